/- The program's BestMeasure and the reference's answer alike, and the arguments stay. Conditions: what slices and texts may hold at most. -/
import Derived.Test.YtndcgckgkkhbpaaPFnExactBestMeasurex0
import Derived.Test.YtndcgckgkkhbpaaPFnExactBestMeasurex1
import Derived.Test.YtndcgckgkkhbpaaPFnExactBestMeasurex2
import Derived.Test.YtndcgckgkkhbpaaPFnExactBestMeasurex3
import Derived.Test.YtndcgckgkkhbpaaPFnExactBestMeasurex4
import Derived.Test.YtndcgckgkkhbpaaPFnExactBestMeasurex5
import Derived.Test.YtndcgckgkkhbpaaPFnExactBestMeasurex6
import Derived.Test.YtndcgckgkkhbpaaPFnExactBestMeasurex7
import Derived.Test.YtndcgckgkkhbpaaPFnExactBestMeasurex8
import Derived.Test.YtndcgckgkkhbpaaPFnExactBestMeasurex9
import Derived.Test.YtndcgckgkkhbpaaPFnExactBestMeasurex10
import Derived.Test.YtndcgckgkkhbpaaKit
import Derived.WideShapes
import Derived.Laws.Strings
set_option linter.unusedVariables false
set_option linter.unusedSimpArgs false
namespace Go.Proofs.Ytndcgckgkkhbpaa.Pure
open Go.RowKit Go.WideShapes Go.Proofs.Ytndcgckgkkhbpaa.PFnExactBestMeasure Go.Proofs.Ytndcgckgkkhbpaa.Kit Go.Proofs.YtndcgckgkkhbpaaW.PrintWords Go.Proofs.YtndcgckgkkhbpaaW.PrintLast
theorem l1In_ev (a b c : Int) : Ev (fun _ => spec_l1In.f a b c) (decide (b ≤ a ∧ a ≤ c)) := by
  refine Ev.flat ?_
  unfold spec_l1In.f
  by_cases h : b ≤ a <;> simp [h]
theorem within_ev (a b c : Int) : Ev (fun _ => impl_within.f a b c) (decide (b ≤ a ∧ a ≤ c)) := by
  refine Ev.flat ?_
  unfold impl_within.f
  by_cases h : b ≤ a <;> simp [h]
def isRow (m : List Int) (n : Int) : Bool := decide ((∀ x ∈ m, -1 ≤ x ∧ x ≤ 1) ∧ 1 ≤ n ∧ n ≤ 5 ∧ (m.length : Int) = n)
theorem isRow_end (m : List Int) (n : Int) (ht : ∀ x ∈ m, -1 ≤ x ∧ x ≤ 1) (g : Nat → Option Bool) (hg : ∀ k, g k = (if decide (1 ≤ n ∧ n ≤ 5) = true then (some ((m.length : Int) == n)) else (some false))) : Ev g (isRow m n) := by
  refine Ev.congr hg ?_
  by_cases h : 1 ≤ n ∧ n ≤ 5
  · refine Ev.pos (by simpa using h) (Ev.is ?_)
    unfold isRow
    by_cases e : (m.length : Int) = n
    · rw [decide_eq_true ⟨ht, h.1, h.2, e⟩]; simpa using e
    · rw [decide_eq_false (fun z => e z.2.2.2)]; simpa using e
  · refine Ev.neg (by simpa using h) (Ev.is ?_)
    unfold isRow
    rw [decide_eq_false (fun z => h ⟨z.2.1, z.2.2.1⟩)]
theorem specIsRow_loop (m : List Int) (n : Int) (hn : m.length ≤ 4611686018427387904) : ∀ (d i : Nat), i + d = m.length → (∀ x ∈ m.take i, -1 ≤ x ∧ x ≤ 1) → Ev (fun k => spec_IsRow.l0 k n (i : Int) m) (isRow m n) := by
  intro d
  induction d with
  | zero =>
    intro i hi ht
    rw [List.take_of_length_le (by omega)] at ht
    exact Ev.step (fun k => spec_IsRow.l0.eq_2 _ _ _ _) (Ev.neg (by omega) (Ev.bind (l1In_ev _ _ _) (isRow_end m n ht _ (fun _ => rfl))))
  | succ d ih =>
    intro i hi ht
    have hlt : i < m.length := by omega
    refine Ev.step (fun k => spec_IsRow.l0.eq_2 _ _ _ _) (Ev.pos (by omega) (Ev.pos (by omega) (Ev.bind (l1In_ev _ _ _) ?_)))
    rw [wrapS (Nat.le_of_lt hlt) hn, rdN]
    by_cases h : -1 ≤ m.getD i 0 ∧ m.getD i 0 ≤ 1
    · refine Ev.pos (by simpa using h) (ih (i + 1) (by omega) ?_)
      rw [take_succ' m 0 i hlt]
      intro x hx
      rcases List.mem_append.1 hx with hx | hx
      · exact ht x hx
      · rw [List.mem_singleton.1 hx]; exact h
    · refine Ev.neg (by simpa using h) (Ev.is ?_)
      unfold isRow
      rw [decide_eq_false (fun z => h (z.1 _ (mem_getD m 0 i hlt)))]
theorem specIsRow_ev (m : List Int) (n : Int) (hn : m.length ≤ 4611686018427387904) : Ev (fun k => spec_IsRow.f k m n) (isRow m n) :=
  specIsRow_loop m n hn m.length 0 (by omega) (fun _ h => by cases h)
theorem implIsRow_loop (m : List Int) (n : Int) (hn : m.length ≤ 4611686018427387904) : ∀ (d i : Nat), i + d = m.length → (∀ x ∈ m.take i, -1 ≤ x ∧ x ≤ 1) → Ev (fun k => impl_IsRow.l0 k n m (m.length : Int) (i : Int) m) (isRow m n) := by
  intro d
  induction d with
  | zero =>
    intro i hi ht
    rw [List.take_of_length_le (by omega)] at ht
    exact Ev.step (fun k => impl_IsRow.l0.eq_2 _ _ _ _ _ _) (Ev.neg (by omega) (Ev.bind (within_ev _ _ _) (isRow_end m n ht _ (fun _ => rfl))))
  | succ d ih =>
    intro i hi ht
    have hlt : i < m.length := by omega
    refine Ev.step (fun k => impl_IsRow.l0.eq_2 _ _ _ _ _ _) (Ev.pos (by omega) (Ev.pos (by omega) (Ev.pos (by omega) (Ev.bind (within_ev _ _ _) ?_))))
    rw [wrapS (Nat.le_of_lt hlt) hn, rdN]
    by_cases h : -1 ≤ m.getD i 0 ∧ m.getD i 0 ≤ 1
    · refine Ev.pos (by simpa using h) (ih (i + 1) (by omega) ?_)
      rw [take_succ' m 0 i hlt]
      intro x hx
      rcases List.mem_append.1 hx with hx | hx
      · exact ht x hx
      · rw [List.mem_singleton.1 hx]; exact h
    · refine Ev.neg (by simpa using h) (Ev.is ?_)
      unfold isRow
      rw [decide_eq_false (fun z => h (z.1 _ (mem_getD m 0 i hlt)))]
theorem implIsRow_ev (m : List Int) (n : Int) (hn : m.length ≤ 4611686018427387904) : Ev (fun k => impl_IsRow.f k m n) (isRow m n) :=
  implIsRow_loop m n hn m.length 0 (by omega) (fun _ h => by cases h)
def isRank (l : List Int) (n : Int) : Bool := decide (1 ≤ n ∧ n ≤ 5 ∧ (l.length : Int) = n ∧ l.Nodup ∧ ∀ x ∈ l, 0 ≤ x ∧ x < n)
theorem l12Has_loop (xs : List Int) (v : Int) (hn : xs.length ≤ 4611686018427387904) : ∀ (d i : Nat), i + d = xs.length → Ev (fun k => spec_l12Has.l0 k xs v (i : Int)) (decide (v ∈ xs.drop i)) := by
  intro d
  induction d with
  | zero =>
    intro i hi
    refine Ev.step (fun k => spec_l12Has.l0.eq_2 _ _ _ _) (Ev.neg (by omega) (Ev.is ?_))
    rw [List.drop_of_length_le (by omega)]
    simp
  | succ d ih =>
    intro i hi
    have hlt : i < xs.length := by omega
    refine Ev.step (fun k => spec_l12Has.l0.eq_2 _ _ _ _) (Ev.pos (by omega) (Ev.pos (by omega) ?_))
    rw [wrapS (Nat.le_of_lt hlt) hn, rdN, drop_cons xs 0 i hlt]
    by_cases c : xs.getD i 0 = v
    · exact Ev.pos c (Ev.is (decide_eq_true (by rw [c]; exact List.mem_cons_self ..)).symm)
    · refine Ev.neg c (Ev.to (ih (i + 1) (by omega)) (decide_eq_decide.2 ⟨fun h => List.mem_cons_of_mem _ h, fun h => ?_⟩))
      rcases List.mem_cons.1 h with h | h
      · exact absurd h.symm c
      · exact h
theorem l12Has_ev (xs : List Int) (v : Int) (hn : xs.length ≤ 4611686018427387904) : Ev (fun k => spec_l12Has.f k xs v) (decide (v ∈ xs)) := by
  unfold spec_l12Has.f
  simpa using l12Has_loop xs v hn xs.length 0 (by omega)
theorem specIsRanking_loop (l : List Int) (n : Int) (hn : l.length ≤ 4611686018427387904) : ∀ (d i : Nat), i + d = l.length → (l.take i).Nodup → (∀ x ∈ l.take i, 0 ≤ x ∧ x < n) → Ev (fun k => spec_IsRanking.l0 k l n (i : Int)) (isRank l n) := by
  intro d
  induction d with
  | zero =>
    intro i hi hd hx
    rw [List.take_of_length_le (by omega)] at hd hx
    refine Ev.step (fun k => spec_IsRanking.l0.eq_2 _ _ _ _) (Ev.neg (by omega) (Ev.bind (l1In_ev _ _ _) ?_))
    by_cases h : 1 ≤ n ∧ n ≤ 5
    · refine Ev.pos (by simpa using h) (Ev.is ?_)
      unfold isRank
      by_cases e : (l.length : Int) = n
      · rw [decide_eq_true ⟨h.1, h.2, e, hd, hx⟩]; simpa using e
      · rw [decide_eq_false (fun z => e z.2.2.1)]; simpa using e
    · refine Ev.neg (by simpa using h) (Ev.is ?_)
      unfold isRank
      rw [decide_eq_false (fun z => h ⟨z.1, z.2.1⟩)]
  | succ d ih =>
    intro i hi hd hx
    have hlt : i < l.length := by omega
    refine Ev.step (fun k => spec_IsRanking.l0.eq_2 _ _ _ _) (Ev.pos (by omega) (Ev.pos (by omega) ?_))
    rw [wrapS (Nat.le_of_lt hlt) hn, rdN, Int.toNat_natCast]
    have no : ∀ {p : Prop}, ¬ p → (isRank l n = true → p) → Ev (fun _ => some false) (isRank l n) := fun hp k => Ev.is (by
      cases e : isRank l n with
      | false => rfl
      | true => exact absurd (k e) hp)
    by_cases c : l.getD i 0 < 0
    · exact Ev.pos c (no (p := 0 ≤ l.getD i 0) (by omega) (fun h => ((of_decide_eq_true h).2.2.2.2 _ (mem_getD l 0 i hlt)).1))
    · refine Ev.neg c ?_
      by_cases c' : l.getD i 0 ≥ n
      · exact Ev.pos c' (no (p := l.getD i 0 < n) (by omega) (fun h => ((of_decide_eq_true h).2.2.2.2 _ (mem_getD l 0 i hlt)).2))
      · refine Ev.neg c' (Ev.pos (by omega) (Ev.bind (l12Has_ev _ _ (by rw [List.length_take]; omega)) ?_))
        have hnd : l.Nodup → ¬ l.getD i 0 ∈ l.take i := fun h hm => by
          have := h.sublist (List.take_sublist (i + 1) l)
          rw [take_succ' l 0 i hlt, List.nodup_append] at this
          exact this.2.2 _ hm _ (List.mem_singleton.2 rfl) rfl
        by_cases c2 : l.getD i 0 ∈ l.take i
        · exact Ev.pos (decide_eq_true c2) (no (p := ¬ l.getD i 0 ∈ l.take i) (fun h => h c2) (fun h => hnd (of_decide_eq_true h).2.2.2.1))
        · refine Ev.neg (by simpa using c2) (ih (i + 1) (by omega) ?_ ?_)
          · rw [take_succ' l 0 i hlt, List.nodup_append]
            exact ⟨hd, by simp, fun a ha b hb e => c2 (by rw [List.mem_singleton.1 hb] at e; rw [← e]; exact ha)⟩
          · rw [take_succ' l 0 i hlt]
            intro x hm
            rcases List.mem_append.1 hm with hm | hm
            · exact hx x hm
            · rw [List.mem_singleton.1 hm]; exact ⟨by omega, by omega⟩
theorem specIsRanking_ev (l : List Int) (n : Int) (hn : l.length ≤ 4611686018427387904) : Ev (fun k => spec_IsRanking.f k l n) (isRank l n) :=
  specIsRanking_loop l n hn l.length 0 (by omega) (by simp) (fun _ h => by cases h)
theorem isStrict_ev (m : List Int) (n : Int) (hm : m.length ≤ 4611686018427387904) (hn : 1 ≤ n ∧ n ≤ 4611686018427387904) (b : Bool) (hb : b = true ↔ (∀ j, 0 ≤ j → j < m.length → (0 ≤ m.getD j 0 ∧ m.getD j 0 < n) ∧ (0 < j → m.getD (j - 1) 0 < m.getD j 0))) : Ev (fun k => impl_isStrict.f k m n) b := by
  unfold impl_isStrict.f
  refine all_loop (fun k i => impl_isStrict.l0 k m n m (m.length : Int) i) m.length (fun j => (0 ≤ m.getD j 0 ∧ m.getD j 0 < n) ∧ (0 < j → m.getD (j - 1) 0 < m.getD j 0)) true (fun i hi r h h' => ?_) (Ev.step (fun k => impl_isStrict.l0.eq_2 _ _ _ _ _ _) (Ev.neg (by omega) (Ev.now _))) m.length 0 (by omega) b (hb.trans ⟨fun h => ⟨h, rfl⟩, fun h => h.1⟩)
  refine Ev.step (fun k => impl_isStrict.l0.eq_2 _ _ _ _ _ _) (Ev.pos (by omega) (Ev.pos (by omega) (Ev.pos (by omega) (Ev.bind (within_ev _ _ _) ?_))))
  rw [wrapS (Nat.le_of_lt hi) hm, wrapI (n - 1) (by omega), rdN]
  by_cases c : 0 ≤ m.getD i 0 ∧ m.getD i 0 < n
  · refine Ev.pos (decide_eq_true ⟨c.1, by omega⟩) ?_
    by_cases c0 : 0 < i
    · have e : wrap64 ((i : Int) - 1) = ((i - 1 : Nat) : Int) := by rw [wrapI _ (by omega)]; omega
      refine Ev.pos (by omega) ?_
      rw [e]
      refine Ev.pos (by omega) (Ev.pos (by omega) ?_)
      rw [rdN]
      by_cases c1 : m.getD i 0 ≤ m.getD (i - 1) 0
      · exact Ev.pos c1 (Ev.is (h' (fun z => by have := z.2 c0; omega)).symm)
      · exact Ev.neg c1 (h ⟨c, fun _ => by omega⟩)
    · exact Ev.neg (by omega) (h ⟨c, fun z => absurd z c0⟩)
  · exact Ev.neg (by simp only [decide_eq_true_eq]; omega) (Ev.is (h' (fun z => c z.1)).symm)
theorem sorted_strict (l : List Int) : (∀ j, 0 < j → j < l.length → (l.mergeSort (fun x y => decide (x ≤ y))).getD (j - 1) 0 < (l.mergeSort (fun x y => decide (x ≤ y))).getD j 0) ↔ l.Nodup := by
  have hp := List.mergeSort_perm l (fun x y => decide (x ≤ y))
  have hs := List.pairwise_mergeSort (le := fun x y : Int => decide (x ≤ y)) (fun a b c h1 h2 => by simp only [decide_eq_true_eq] at *; omega) (fun a b => by simp only [Bool.or_eq_true, decide_eq_true_eq]; omega) l
  have hlen := hp.length_eq
  rw [← hp.nodup_iff]
  generalize hm : l.mergeSort (fun x y => decide (x ≤ y)) = m at *
  rw [List.pairwise_iff_getElem] at hs
  simp only [decide_eq_true_eq] at hs
  unfold List.Nodup
  rw [List.pairwise_iff_getElem]
  constructor
  · intro h i j hi hj hij e
    have h1 := h j (by omega) (by omega)
    rw [getD_at _ _ _ hj, getD_at _ _ _ (show j - 1 < m.length by omega)] at h1
    rcases Nat.lt_or_ge i (j - 1) with h2 | h2
    · have := hs i (j - 1) hi (by omega) h2; omega
    · obtain rfl : i = j - 1 := by omega
      omega
  · intro h j h0 hj
    have hj' : j < m.length := by omega
    have h1 := hs (j - 1) j (by omega) hj' (by omega)
    have h2 := h (j - 1) j (by omega) hj' (by omega)
    rw [getD_at _ _ _ hj', getD_at _ _ _ (show j - 1 < m.length by omega)]
    omega
theorem implIsRanking_ev (l : List Int) (n : Int) : Ev (fun k => impl_IsRanking.f k l n) (isRank l n) := by
  unfold impl_IsRanking.f
  refine Ev.bind (within_ev _ _ _) ?_
  by_cases h : 1 ≤ n ∧ n ≤ 5
  · refine Ev.pos (by simpa using h) ?_
    by_cases e : (l.length : Int) = n
    · refine Ev.pos e (isStrict_ev _ n (by rw [List.length_mergeSort]; omega) (by omega) _ ?_)
      unfold isRank
      rw [decide_eq_true_eq, List.length_mergeSort]
      constructor
      · rintro ⟨_, _, _, hd, hx⟩ j _ hj
        exact ⟨hx _ (List.mem_mergeSort.1 (mem_getD _ 0 j (by rw [List.length_mergeSort]; exact hj))), fun h0 => (sorted_strict l).2 hd j h0 hj⟩
      · intro H
        refine ⟨h.1, h.2, e, (sorted_strict l).1 (fun j h0 hj => (H j (by omega) hj).2 h0), fun x hx => ?_⟩
        obtain ⟨j, hj, rfl⟩ := List.getElem_of_mem (List.mem_mergeSort (le := fun x y : Int => decide (x ≤ y)).2 hx)
        have := (H j (by omega) (by rw [List.length_mergeSort] at hj; exact hj)).1
        rwa [getD_at _ _ _ hj] at this
    · refine Ev.neg e (Ev.is ?_)
      unfold isRank
      rw [decide_eq_false (fun z => e z.2.2.1)]
  · refine Ev.neg (by simpa using h) (Ev.is ?_)
    unfold isRank
    rw [decide_eq_false (fun z => h ⟨z.1, z.2.1⟩)]
def satFirst (m : List Int) : List Int → Bool
  | [] => true
  | k :: ks => if m.getD k.toNat 0 = 0 then satFirst m ks else m.getD k.toNat 0 == 1
def satRow (r m : List Int) : Bool := isRank r (m.length : Int) && isRow m (r.length : Int) && satFirst m r
theorem specSat_loop (r m : List Int) (hn : r.length ≤ 4611686018427387904) (hx : ∀ x ∈ r, 0 ≤ x ∧ x < (m.length : Int)) : ∀ (d i : Nat), i + d = r.length → Ev (fun k => spec_Satisfies.l0 k r (i : Int) m) (satFirst m (r.drop i)) := by
  intro d
  induction d with
  | zero =>
    intro i hi
    rw [List.drop_of_length_le (by omega)]
    exact Ev.step (fun k => spec_Satisfies.l0.eq_2 _ _ _ _) (Ev.neg (by omega) (Ev.now _))
  | succ d ih =>
    intro i hi
    have hlt : i < r.length := by omega
    have hb := hx _ (mem_getD r 0 i hlt)
    rw [drop_cons r 0 i hlt, satFirst]
    refine Ev.step (fun k => spec_Satisfies.l0.eq_2 _ _ _ _) (Ev.pos (by omega) (Ev.pos (by omega) ?_))
    rw [wrapS (Nat.le_of_lt hlt) hn, rdN, show rd m (r.getD i 0) = m.getD (r.getD i 0).toNat 0 from rfl]
    refine Ev.pos hb.1 (Ev.pos hb.2 ?_)
    by_cases c : m.getD (r.getD i 0).toNat 0 = 0
    · rw [if_pos c]; exact Ev.pos c (ih (i + 1) (by omega))
    · rw [if_neg c]; exact Ev.neg c (Ev.now _)
theorem specSatisfies_ev (r m : List Int) (hr : r.length ≤ 4611686018427387904) (hm : m.length ≤ 4611686018427387904) : Ev (fun k => spec_Satisfies.f k r m) (satRow r m) := by
  unfold spec_Satisfies.f
  refine Ev.bind (specIsRanking_ev r _ hr) ?_
  unfold satRow
  by_cases c : isRank r (m.length : Int) = true
  · refine Ev.pos c (Ev.bind (specIsRow_ev m _ hm) (Ev.step (fun k => spec_Satisfies.j0.eq_2 _ _ _ _) ?_))
    by_cases c' : isRow m (r.length : Int) = true
    · refine Ev.neg (by simp [c']) ?_
      rw [c, c', Bool.true_and, Bool.true_and]
      have := specSat_loop r m hr (of_decide_eq_true c).2.2.2.2 r.length 0 (by omega)
      rw [List.drop_zero] at this
      exact this
    · exact Ev.pos (by simp [c']) (Ev.is (by simp [c']))
  · exact Ev.neg c (Ev.step (fun k => spec_Satisfies.j0.eq_2 _ _ _ _) (Ev.pos rfl (Ev.is (by simp [c]))))
theorem implSat_loop (r m : List Int) (hn : r.length ≤ 4611686018427387904) (hx : ∀ x ∈ r, 0 ≤ x ∧ x < (m.length : Int)) : ∀ (d i : Nat), i + d = r.length → Ev (fun k => impl_Satisfies.l0 k r (r.length : Int) (i : Int) m) (satFirst m (r.drop i)) := by
  intro d
  induction d with
  | zero =>
    intro i hi
    rw [List.drop_of_length_le (by omega)]
    exact Ev.step (fun k => impl_Satisfies.l0.eq_2 _ _ _ _ _) (Ev.neg (by omega) (Ev.now _))
  | succ d ih =>
    intro i hi
    have hlt : i < r.length := by omega
    have hb := hx _ (mem_getD r 0 i hlt)
    rw [drop_cons r 0 i hlt, satFirst]
    refine Ev.step (fun k => impl_Satisfies.l0.eq_2 _ _ _ _ _) (Ev.pos (by omega) (Ev.pos (by omega) (Ev.pos (by omega) ?_)))
    rw [wrapS (Nat.le_of_lt hlt) hn, rdN, show rd m (r.getD i 0) = m.getD (r.getD i 0).toNat 0 from rfl]
    refine Ev.pos hb.1 (Ev.pos hb.2 ?_)
    by_cases c : m.getD (r.getD i 0).toNat 0 = 0
    · rw [if_pos c]; exact Ev.pos c (ih (i + 1) (by omega))
    · rw [if_neg c]; exact Ev.neg c (Ev.now _)
theorem implSatisfies_ev (r m : List Int) (hr : r.length ≤ 4611686018427387904) (hm : m.length ≤ 4611686018427387904) : Ev (fun k => impl_Satisfies.f k r m) (satRow r m) := by
  have h1 : Ev (fun k => impl_isAnyRow.f k m) (isRow m (m.length : Int)) := by
    unfold impl_isAnyRow.f
    exact Ev.bind (implIsRow_ev m _ hm) (Ev.now _)
  have e : satRow r m = (isRow m (m.length : Int) && isRank r (m.length : Int) && satFirst m r) := by
    unfold satRow
    by_cases c : isRank r (m.length : Int) = true
    · rw [show (r.length : Int) = (m.length : Int) from (of_decide_eq_true c).2.2.1, c]; simp
    · rw [Bool.eq_false_iff.2 c]; simp
  rw [e]
  unfold impl_Satisfies.f
  refine Ev.bind h1 ?_
  by_cases c' : isRow m (m.length : Int) = true
  · refine Ev.pos c' (Ev.bind (implIsRanking_ev r _) (Ev.step (fun k => impl_Satisfies.j0.eq_2 _ _ _ _) ?_))
    by_cases c : isRank r (m.length : Int) = true
    · refine Ev.neg (by simp [c]) ?_
      rw [c, c', Bool.true_and, Bool.true_and]
      have := implSat_loop r m hr (of_decide_eq_true c).2.2.2.2 r.length 0 (by omega)
      rw [List.drop_zero] at this
      exact this
    · exact Ev.pos (by simp [c]) (Ev.is (by simp [c]))
  · exact Ev.neg c' (Ev.step (fun k => impl_Satisfies.j0.eq_2 _ _ _ _) (Ev.pos rfl (Ev.is (by simp [c']))))
theorem szIntS_ev (l : List Int) (hl : l.length ≤ maxLen) (a : Int) (h0 : 0 ≤ a) (h1 : a ≤ 1048576) : ∃ r, Ev (fun _ => laws_szIntS.f l a) r ∧ -1 ≤ r ∧ r ≤ a ∧ (0 ≤ r → l.length ≤ 1048576) := by
  obtain ⟨r, hr, h⟩ := sz_leaf a l.length hl h0 h1
  exact ⟨r, Ev.flat hr, h⟩
theorem toIntS_loop (xs : List Int) (hn : xs.length ≤ 4611686018427387904) : ∀ (d i : Nat) (ys : List Int), i + d = xs.length → ys.length = xs.length → ys.take i = xs.take i →
    Ev (fun k => laws_toIntS.l0 k xs ys (i : Int)) xs := by
  intro d
  induction d with
  | zero =>
    intro i ys hi hl ht
    refine Ev.step (fun k => laws_toIntS.l0.eq_2 _ _ _ _) ?_
    refine Ev.neg (by omega) (Ev.is ?_)
    have e : i = xs.length := by omega
    rw [e, List.take_length, ← hl, List.take_length] at ht
    exact ht
  | succ d ih =>
    intro i ys hi hl ht
    have hlt : i < xs.length := by omega
    obtain ⟨h1, h2⟩ := set_fill xs ys 0 i hlt hl ht
    refine Ev.step (fun k => laws_toIntS.l0.eq_2 _ _ _ _) ?_
    refine Ev.pos (by omega) (Ev.pos (by omega) (Ev.pos (by omega) ?_))
    rw [wrapS (Nat.le_of_lt hlt) hn, rdN, Int.toNat_natCast]
    exact ih (i + 1) _ (by omega) h1 h2
theorem toIntS_ev (xs : List Int) (hn : xs.length ≤ 35184372088832) : Ev (fun k => laws_toIntS.f k xs) xs := by
  unfold laws_toIntS.f
  refine Ev.pos (by omega) (Ev.pos (by omega) ?_)
  rw [Int.toNat_natCast]
  exact toIntS_loop xs (by omega) xs.length 0 _ (by omega) (by rw [List.length_replicate]) rfl
theorem eqIntS_loop (xs ys : List Int) (hl : xs.length = ys.length) (hn : xs.length ≤ 4611686018427387904) : ∀ (d i : Nat), i + d = xs.length →
    Ev (fun k => laws_eqIntS.l0 k xs ys (i : Int)) (decide (xs.drop i = ys.drop i)) := by
  intro d
  induction d with
  | zero =>
    intro i hi
    refine Ev.step (fun k => laws_eqIntS.l0.eq_2 _ _ _ _) ?_
    refine Ev.neg (by omega) (Ev.is ?_)
    rw [List.drop_of_length_le (by omega), List.drop_of_length_le (by omega)]
    rfl
  | succ d ih =>
    intro i hi
    have hlt : i < xs.length := by omega
    refine Ev.step (fun k => laws_eqIntS.l0.eq_2 _ _ _ _) ?_
    refine Ev.pos (by omega) (Ev.pos (by omega) (Ev.pos (by omega) ?_))
    rw [wrapS (Nat.le_of_lt hlt) hn, rdN, rdN, drop_cons xs 0 i hlt, drop_cons ys 0 i (by omega)]
    by_cases e : xs.getD i 0 = ys.getD i 0
    · refine Ev.pos e (Ev.to (ih (i + 1) (by omega)) ?_)
      rw [e]
      exact decide_eq_decide.2 ⟨fun h => by rw [h], fun h => (List.cons.inj h).2⟩
    · exact Ev.neg e (Ev.is (decide_eq_false (fun h => e (List.cons.inj h).1)).symm)
theorem eqIntS_ev (xs ys : List Int) (hn : xs.length ≤ 4611686018427387904) : Ev (fun k => laws_eqIntS.f k xs ys) (decide (xs = ys)) := by
  unfold laws_eqIntS.f
  by_cases e : xs.length = ys.length
  · exact Ev.pos (by omega) (eqIntS_loop xs ys e hn xs.length 0 (by omega))
  · refine Ev.neg (by omega) (Ev.is ?_)
    have : ¬ xs = ys := fun h => e (by rw [h])
    simp [this]
abbrev LRw := S91
abbrev IRw := S96
deriving instance DecidableEq for S96
def toRw (y : LRw) : IRw := ⟨y.f0⟩
theorem szRow_ev (y : LRw) (hy : y.f0.length ≤ maxLen) (a : Int) (h0 : 0 ≤ a) (h1 : a ≤ 1048576) : ∃ r, Ev (fun _ => laws_szRow.f y.f0 a) r ∧ -1 ≤ r ∧ r ≤ a ∧ (0 ≤ r → y.f0.length ≤ 1048576) := by
  obtain ⟨r, hr, h1, h2, h3⟩ := szIntS_ev y.f0 hy a h0 h1
  unfold laws_szRow.f
  by_cases c : r < 0
  · exact ⟨-1, Ev.bind hr (Ev.pos c (Ev.now _)), by omega, by omega, fun h => by omega⟩
  · exact ⟨r, Ev.bind hr (Ev.neg c (Ev.now _)), h1, h2, h3⟩
theorem szRowS_ev (xs : List LRw) (hn : xs.length ≤ maxLen) (hy : ∀ y ∈ xs, y.f0.length ≤ maxLen) (a : Int) (h0 : 0 ≤ a) (h1 : a ≤ 1048576) :
    ∃ r, Ev (fun k => laws_szRowS.f k xs a) r ∧ -1 ≤ r ∧ r ≤ a ∧ (0 ≤ r → xs.length ≤ 1048576 ∧ ∀ y ∈ xs, y.f0.length ≤ 1048576) :=
  sz_slice (fun k a => laws_szRowS.f k xs a) (fun k left i => laws_szRowS.l0 k xs left i) xs (fun y => y.f0.length ≤ 1048576) hn (fun _ _ => rfl)
    (fun hl left h0 h1 => sz_loop (fun k left i => laws_szRowS.l0 k xs left i) (fun _ (y : LRw) left => laws_szRow.f y.f0 left) xs z91 (fun y => y.f0.length ≤ 1048576) hl (fun k left i => by rw [laws_szRowS.l0.eq_2, show rd_T91 xs (i : Int) = xs.getD i z91 from rfl]) (fun y hm left h0 h1 => szRow_ev y (hy y hm) left h0 h1) xs.length 0 left (by omega) h0 h1) a h0 h1
theorem toRowS_ev (xs : List LRw) (hn : xs.length ≤ 1048576) (hy : ∀ y ∈ xs, y.f0.length ≤ 1048576) : Ev (fun k => laws_toRowS.f k xs) (xs.map toRw) := by
  unfold laws_toRowS.f
  refine Ev.pos (by omega) (Ev.pos (by omega) ?_)
  rw [Int.toNat_natCast]
  exact to_loop (fun k ys i => laws_toRowS.l0 k xs ys i) (fun k y => laws_toRow.f k y.f0) (fun t => (⟨t⟩ : IRw)) (fun y => y.f0) xs z91 (by omega) (fun k ys i => laws_toRowS.l0.eq_2 _ _ _ _)
    (fun y hm => Ev.bind (toIntS_ev y.f0 (by have := hy y hm; omega)) (Ev.now _)) xs.length 0 (List.replicate xs.length z96) (by omega) (by rw [List.length_replicate]) rfl
theorem eqRow_ev (a b : IRw) (hn : a.f0.length ≤ 4611686018427387904) : Ev (fun k => laws_eqRow.f k a.f0 b.f0) (decide (a = b)) := by
  unfold laws_eqRow.f
  refine Ev.bind (eqIntS_ev _ _ hn) ?_
  obtain ⟨a0⟩ := a
  obtain ⟨b0⟩ := b
  by_cases c : a0 = b0
  · exact Ev.pos (decide_eq_true c) (Ev.is (decide_eq_true (by rw [c])).symm)
  · exact Ev.neg (by simpa using c) (Ev.is (decide_eq_false (fun h => c (by injection h))).symm)
theorem eqRowS_ev (xs ys : List IRw) (hn : xs.length ≤ 4611686018427387904) (hy : ∀ y ∈ xs, y.f0.length ≤ 4611686018427387904) : Ev (fun k => laws_eqRowS.f k xs ys) (decide (xs = ys)) :=
  eq_slice _ (fun k i => laws_eqRowS.l0 k xs ys i) xs ys (fun _ => rfl)
    (fun e => eq_loop _ (fun k a b => laws_eqRow.f k a.f0 b.f0) xs ys z96 e hn (fun k i => laws_eqRowS.l0.eq_2 _ _ _ _) (fun a ha b _ => eqRow_ev a b (hy a ha)) xs.length 0 (by omega))
def satAll (r : List Int) (l : List IRw) : Bool := decide (∀ j, j < l.length → satRow r (l.getD j z96).f0 = true) && isRank r (r.length : Int)
theorem satAll_iff (r : List Int) (l : List IRw) : satAll r l = true ↔ (∀ j, 0 ≤ j → j < l.length → satRow r (l.getD j z96).f0 = true) ∧ isRank r (r.length : Int) = true := by
  unfold satAll
  rw [Bool.and_eq_true, decide_eq_true_eq]
  exact ⟨fun h => ⟨fun j _ h2 => h.1 j h2, h.2⟩, fun h => ⟨fun j h2 => h.1 j (by omega) h2, h.2⟩⟩
theorem specSatisfiesAll_ev (r : List Int) (l : List IRw) (hr : r.length ≤ 4611686018427387904) (hl : l.length ≤ 4611686018427387904) (hm : ∀ y ∈ l, y.f0.length ≤ 4611686018427387904) : Ev (fun k => spec_SatisfiesAll.f k r l) (satAll r l) := by
  unfold spec_SatisfiesAll.f
  refine all_from (fun k i => spec_SatisfiesAll.l0 k r l i) 0 l.length (fun j => satRow r (l.getD j z96).f0 = true) _ (fun i _ hi q h h' => ?_) ?_ l.length 0 (by omega) (by omega) _ (satAll_iff r l)
  · refine Ev.step (fun k => spec_SatisfiesAll.l0.eq_2 _ _ _ _) (Ev.pos (by omega) (Ev.pos (by omega) ?_))
    rw [show rd_T96 l (i : Int) = l.getD i z96 from rfl, wrapS (Nat.le_of_lt hi) hl]
    refine Ev.bind (specSatisfies_ev r _ hr (hm _ (mem_getD l _ i hi))) ?_
    by_cases c : satRow r (l.getD i z96).f0 = true
    · exact Ev.pos c (h c)
    · exact Ev.neg c (Ev.is (h' c).symm)
  · exact Ev.step (fun k => spec_SatisfiesAll.l0.eq_2 _ _ _ _) (Ev.neg (by omega) (Ev.bind (specIsRanking_ev r _ hr) (Ev.now _)))
theorem implSatisfiesAll_ev (r : List Int) (l : List IRw) (hr : r.length ≤ 4611686018427387904) (hl : l.length ≤ 4611686018427387904) (hm : ∀ y ∈ l, y.f0.length ≤ 4611686018427387904) : Ev (fun k => impl_SatisfiesAll.f k r l) (satAll r l) := by
  unfold impl_SatisfiesAll.f
  refine all_from (fun k i => impl_SatisfiesAll.l0 k r l (l.length : Int) i) 0 l.length (fun j => satRow r (l.getD j z96).f0 = true) _ (fun i _ hi q h h' => ?_) ?_ l.length 0 (by omega) (by omega) _ (satAll_iff r l)
  · refine Ev.step (fun k => impl_SatisfiesAll.l0.eq_2 _ _ _ _ _) (Ev.pos (by omega) (Ev.pos (by omega) (Ev.pos (by omega) ?_)))
    rw [show rd_T96 l (i : Int) = l.getD i z96 from rfl, wrapS (Nat.le_of_lt hi) hl]
    refine Ev.bind (implSatisfies_ev r _ hr (hm _ (mem_getD l _ i hi))) ?_
    by_cases c : satRow r (l.getD i z96).f0 = true
    · exact Ev.pos c (h c)
    · exact Ev.neg c (Ev.is (h' c).symm)
  · exact Ev.step (fun k => impl_SatisfiesAll.l0.eq_2 _ _ _ _ _) (Ev.neg (by omega) (Ev.bind (implIsRanking_ev r _) (Ev.now _)))
def areRows (l : List IRw) (n : Int) : Bool := decide (∀ j, j < l.length → isRow (l.getD j z96).f0 n = true) && (if 1 ≤ n ∧ n ≤ 5 then decide ((l.length : Int) ≤ 20) else false)
theorem areRows_iff (l : List IRw) (n : Int) : areRows l n = true ↔ (∀ j, 0 ≤ j → j < l.length → isRow (l.getD j z96).f0 n = true) ∧ (if 1 ≤ n ∧ n ≤ 5 then decide ((l.length : Int) ≤ 20) else false) = true := by
  unfold areRows
  rw [Bool.and_eq_true, decide_eq_true_eq]
  exact ⟨fun h => ⟨fun j _ h2 => h.1 j h2, h.2⟩, fun h => ⟨fun j h2 => h.1 j (by omega) h2, h.2⟩⟩
theorem specAreRows_ev (l : List IRw) (n : Int) (hl : l.length ≤ 4611686018427387904) (hm : ∀ y ∈ l, y.f0.length ≤ 4611686018427387904) : Ev (fun k => spec_AreRows.f k l n) (areRows l n) := by
  unfold spec_AreRows.f
  refine all_from (fun k i => spec_AreRows.l0 k l n i) 0 l.length (fun j => isRow (l.getD j z96).f0 n = true) _ (fun i _ hi r h h' => ?_) ?_ l.length 0 (by omega) (by omega) _ (areRows_iff l n)
  · refine Ev.step (fun k => spec_AreRows.l0.eq_2 _ _ _ _) (Ev.pos (by omega) (Ev.pos (by omega) ?_))
    rw [show rd_T96 l (i : Int) = l.getD i z96 from rfl, wrapS (Nat.le_of_lt hi) hl]
    refine Ev.bind (specIsRow_ev _ n (hm _ (mem_getD l _ i hi))) ?_
    by_cases c : isRow (l.getD i z96).f0 n = true
    · exact Ev.pos c (h c)
    · exact Ev.neg c (Ev.is (h' c).symm)
  · refine Ev.step (fun k => spec_AreRows.l0.eq_2 _ _ _ _) (Ev.neg (by omega) (Ev.bind (l1In_ev _ _ _) ?_))
    by_cases c : 1 ≤ n ∧ n ≤ 5
    · rw [if_pos c]; exact Ev.pos (decide_eq_true c) (Ev.now _)
    · rw [if_neg c]; exact Ev.neg (by simpa using c) (Ev.now _)
theorem implAreRows_ev (l : List IRw) (n : Int) (hl : l.length ≤ 4611686018427387904) (hm : ∀ y ∈ l, y.f0.length ≤ 4611686018427387904) : Ev (fun k => impl_AreRows.f k l n) (areRows l n) := by
  unfold impl_AreRows.f
  refine all_from (fun k i => impl_AreRows.l0 k l n l (l.length : Int) i) 0 l.length (fun j => isRow (l.getD j z96).f0 n = true) _ (fun i _ hi r h h' => ?_) ?_ l.length 0 (by omega) (by omega) _ (areRows_iff l n)
  · refine Ev.step (fun k => impl_AreRows.l0.eq_2 _ _ _ _ _ _) (Ev.pos (by omega) (Ev.pos (by omega) (Ev.pos (by omega) ?_)))
    rw [show rd_T96 l (i : Int) = l.getD i z96 from rfl, wrapS (Nat.le_of_lt hi) hl]
    refine Ev.bind (implIsRow_ev _ n (hm _ (mem_getD l _ i hi))) ?_
    by_cases c : isRow (l.getD i z96).f0 n = true
    · exact Ev.pos c (h c)
    · exact Ev.neg c (Ev.is (h' c).symm)
  · refine Ev.step (fun k => impl_AreRows.l0.eq_2 _ _ _ _ _ _) (Ev.neg (by omega) (Ev.bind (within_ev _ _ _) ?_))
    by_cases c : 1 ≤ n ∧ n ≤ 5
    · rw [if_pos c]; exact Ev.pos (decide_eq_true c) (Ev.now _)
    · rw [if_neg c]; exact Ev.neg (by simpa using c) (Ev.now _)
theorem allRank_ev (n : Int) (h : 1 ≤ n ∧ n ≤ 5) : ∃ L : List (List Int), Ev (fun k => spec_AllRankings.f k n) L ∧ Ev (fun k => impl_AllRankings.f k n) L ∧ L.length ≤ 120 ∧ ∀ r ∈ L, r.length ≤ 5 := by
  have h5 : n = 1 ∨ n = 2 ∨ n = 3 ∨ n = 4 ∨ n = 5 := by omega
  have key : ∀ n : Int, spec_AllRankings.f 2000 n = impl_AllRankings.f 2000 n → (match impl_AllRankings.f 2000 n with | some L => decide (L.length ≤ 120) && L.all (fun r => decide (r.length ≤ 5)) | none => false) = true →
      ∃ L : List (List Int), Ev (fun k => spec_AllRankings.f k n) L ∧ Ev (fun k => impl_AllRankings.f k n) L ∧ L.length ≤ 120 ∧ ∀ r ∈ L, r.length ≤ 5 := by
    intro n e g
    cases c : impl_AllRankings.f 2000 n with
    | none => rw [c] at g; exact absurd g (by simp)
    | some L =>
      rw [c] at g e
      simp only [Bool.and_eq_true, decide_eq_true_eq, List.all_eq_true] at g
      exact ⟨L, Ev.of (spec_AllRankings.mono n) e, Ev.of (impl_AllRankings.mono n) c, g.1, g.2⟩
  rcases h5 with rfl | rfl | rfl | rfl | rfl
  all_goals exact key _ (by decide +kernel) (by decide +kernel)
def models (l : List IRw) (n : Int) (L : List (List Int)) : List (List Int) := if areRows l n = true then L.filter (fun r => satAll r l) else []
theorem specModels_loop (l : List IRw) (n : Int) (L : List (List Int)) (hl : l.length ≤ 4611686018427387904) (hm : ∀ y ∈ l, y.f0.length ≤ 4611686018427387904) (hL : L.length ≤ 120) (hr : ∀ r ∈ L, r.length ≤ 5) (c : areRows l n = true) :
    ∀ (d i : Nat) (out : List (List Int)), i + d = L.length → out.length ≤ i → Ev (fun k => spec_ModelsOf.l0 k l n out L (i : Int)) (out ++ (L.drop i).filter (fun r => satAll r l)) := by
  intro d
  induction d with
  | zero =>
    intro i out hi ho
    rw [List.drop_of_length_le (by omega)]
    exact Ev.step (fun k => spec_ModelsOf.l0.eq_2 _ _ _ _ _ _) (Ev.neg (by omega) (Ev.step (fun k => spec_ModelsOf.j1.eq_2 _ _ _ _ _ _ _) (Ev.neg (by simp) (Ev.is (by simp)))))
  | succ d ih =>
    intro i out hi ho
    have hlt : i < L.length := by omega
    have h5 := hr _ (mem_getD L [] i hlt)
    refine Ev.step (fun k => spec_ModelsOf.l0.eq_2 _ _ _ _ _ _) (Ev.pos (by omega) (Ev.bind (specAreRows_ev l n hl hm) (Ev.step (fun k => spec_ModelsOf.j1.eq_2 _ _ _ _ _ _ _) (Ev.pos c (Ev.pos (by omega) (Ev.pos (by omega) ?_))))))
    rw [show rd_L1 L (i : Int) = L.getD i [] from rfl, wrapS (Nat.le_of_lt hlt) (by omega), drop_cons L [] i hlt, List.filter_cons]
    refine Ev.bind (specSatisfiesAll_ev _ l (by omega) hl hm) ?_
    by_cases s : satAll (L.getD i []) l = true
    · rw [if_pos s]
      refine Ev.pos s (Ev.pos (by omega) ?_)
      have := ih (i + 1) (out ++ [L.getD i []]) (by omega) (by rw [List.length_append, List.length_singleton]; omega)
      rw [List.append_assoc] at this
      exact this
    · rw [if_neg s]
      exact Ev.neg s (ih (i + 1) out (by omega) (by omega))
theorem specModelsOf_ev (l : List IRw) (n : Int) (L : List (List Int)) (hA : Ev (fun k => spec_AllRankings.f k n) L) (hl : l.length ≤ 4611686018427387904) (hm : ∀ y ∈ l, y.f0.length ≤ 4611686018427387904) (hL : L.length ≤ 120) (hr : ∀ r ∈ L, r.length ≤ 5) : Ev (fun k => spec_ModelsOf.f k l n) (models l n L) := by
  unfold spec_ModelsOf.f models
  refine Ev.bind hA ?_
  by_cases c : areRows l n = true
  · rw [if_pos c]
    have := specModels_loop l n L hl hm hL hr c L.length 0 [] (by omega) (by simp)
    rw [List.drop_zero, List.nil_append] at this
    exact this
  · rw [if_neg c]
    refine Ev.step (fun k => spec_ModelsOf.l0.eq_2 _ _ _ _ _ _) ?_
    by_cases q : (0 : Int) < (L.length : Int)
    · exact Ev.pos q (Ev.bind (specAreRows_ev l n hl hm) (Ev.step (fun k => spec_ModelsOf.j1.eq_2 _ _ _ _ _ _ _) (Ev.neg c (Ev.now _))))
    · exact Ev.neg q (Ev.step (fun k => spec_ModelsOf.j1.eq_2 _ _ _ _ _ _ _) (Ev.neg (by simp) (Ev.now _)))
theorem implModels_loop (l : List IRw) (L : List (List Int)) (hl : l.length ≤ 4611686018427387904) (hm : ∀ y ∈ l, y.f0.length ≤ 4611686018427387904) (hL : L.length ≤ 120) (hr : ∀ r ∈ L, r.length ≤ 5) :
    ∀ (d i : Nat) (out : List (List Int)), i + d = L.length → out.length ≤ i → Ev (fun k => impl_ModelsOf.l0 k l out L (L.length : Int) (i : Int)) (out ++ (L.drop i).filter (fun r => satAll r l)) := by
  intro d
  induction d with
  | zero =>
    intro i out hi ho
    rw [List.drop_of_length_le (by omega)]
    exact Ev.step (fun k => impl_ModelsOf.l0.eq_2 _ _ _ _ _ _) (Ev.neg (by omega) (Ev.is (by simp)))
  | succ d ih =>
    intro i out hi ho
    have hlt : i < L.length := by omega
    have h5 := hr _ (mem_getD L [] i hlt)
    refine Ev.step (fun k => impl_ModelsOf.l0.eq_2 _ _ _ _ _ _) (Ev.pos (by omega) (Ev.pos (by omega) (Ev.pos (by omega) ?_)))
    rw [show rd_L1 L (i : Int) = L.getD i [] from rfl, wrapS (Nat.le_of_lt hlt) (by omega), drop_cons L [] i hlt, List.filter_cons]
    refine Ev.bind (implSatisfiesAll_ev _ l (by omega) hl hm) ?_
    by_cases s : satAll (L.getD i []) l = true
    · rw [if_pos s]
      refine Ev.pos s (Ev.pos (by omega) ?_)
      have := ih (i + 1) (out ++ [L.getD i []]) (by omega) (by rw [List.length_append, List.length_singleton]; omega)
      rw [List.append_assoc] at this
      exact this
    · rw [if_neg s]
      exact Ev.neg s (ih (i + 1) out (by omega) (by omega))
theorem implModelsOf_ev (l : List IRw) (n : Int) (L : List (List Int)) (hA : Ev (fun k => impl_AllRankings.f k n) L) (hl : l.length ≤ 4611686018427387904) (hm : ∀ y ∈ l, y.f0.length ≤ 4611686018427387904) (hL : L.length ≤ 120) (hr : ∀ r ∈ L, r.length ≤ 5) : Ev (fun k => impl_ModelsOf.f k l n) (models l n L) := by
  unfold impl_ModelsOf.f models
  refine Ev.bind (implAreRows_ev l n hl hm) ?_
  by_cases c : areRows l n = true
  · rw [if_pos c]
    refine Ev.pos c (Ev.bind hA ?_)
    have := implModels_loop l L hl hm hL hr L.length 0 [] (by omega) (by simp)
    rw [List.drop_zero, List.nil_append] at this
    exact this
  · rw [if_neg c]
    exact Ev.neg c (Ev.now _)
theorem models_len (l : List IRw) (n : Int) (L : List (List Int)) (hL : L.length ≤ 120) (hr : ∀ r ∈ L, r.length ≤ 5) : (models l n L).length ≤ 120 ∧ ∀ r ∈ models l n L, r.length ≤ 5 := by
  unfold models
  split
  · exact ⟨Nat.le_trans (List.length_filter_le _ _) hL, fun r h => hr r (List.mem_filter.1 h).1⟩
  · exact ⟨by simp, fun r h => by cases h⟩
def conNames : List ByteArray := (spec_ConstraintNames.f).getD []
theorem conNames_len : conNames.length = 10 := rfl
theorem specNames_ev : Ev (fun _ => spec_ConstraintNames.f) conNames := Ev.flat rfl
theorem implNames_ev : Ev (fun _ => impl_ConstraintNames.f) conNames := Ev.flat rfl
theorem l3Has_loop (xs : List ByteArray) (v : ByteArray) (hn : xs.length ≤ 4611686018427387904) : ∀ (d i : Nat), i + d = xs.length → Ev (fun k => spec_l3Has.l0 k xs v (i : Int)) (decide (v ∈ xs.drop i)) := by
  intro d
  induction d with
  | zero =>
    intro i hi
    refine Ev.step (fun k => spec_l3Has.l0.eq_2 _ _ _ _) (Ev.neg (by omega) (Ev.is ?_))
    rw [List.drop_of_length_le (by omega)]
    simp
  | succ d ih =>
    intro i hi
    have hlt : i < xs.length := by omega
    refine Ev.step (fun k => spec_l3Has.l0.eq_2 _ _ _ _) (Ev.pos (by omega) (Ev.pos (by omega) ?_))
    rw [wrapS (Nat.le_of_lt hlt) hn, show rdOf ByteArray.empty xs (i : Int) = xs.getD i ByteArray.empty from rfl, drop_cons xs ByteArray.empty i hlt]
    by_cases c : xs.getD i ByteArray.empty = v
    · exact Ev.pos (ba_ext.2 c) (Ev.is (decide_eq_true (by rw [c]; exact List.mem_cons_self ..)).symm)
    · refine Ev.neg (fun h => c (ba_ext.1 h)) (Ev.to (ih (i + 1) (by omega)) (decide_eq_decide.2 ⟨fun h => List.mem_cons_of_mem _ h, fun h => ?_⟩))
      rcases List.mem_cons.1 h with h | h
      · exact absurd h.symm c
      · exact h
theorem l3Has_ev (xs : List ByteArray) (v : ByteArray) (hn : xs.length ≤ 4611686018427387904) : Ev (fun k => spec_l3Has.f k xs v) (decide (v ∈ xs)) := by
  unfold spec_l3Has.f
  simpa using l3Has_loop xs v hn xs.length 0 (by omega)
def strIdx (a : ByteArray) : List ByteArray → Int → Int
  | [], _ => -1
  | y :: ys, i => if a = y then i else strIdx a ys (i + 1)
theorem strIndex_loop (xs : List ByteArray) (v : ByteArray) (hn : xs.length ≤ 4611686018427387904) : ∀ (d i : Nat), i + d = xs.length → Ev (fun k => slices_Index_string_string.l0 k xs v (xs.length : Int) (i : Int)) (strIdx v (xs.drop i) i) := by
  intro d
  induction d with
  | zero =>
    intro i hi
    refine Ev.step (fun k => slices_Index_string_string.l0.eq_2 _ _ _ _ _) (Ev.neg (by omega) (Ev.is ?_))
    rw [List.drop_of_length_le (by omega)]
    rfl
  | succ d ih =>
    intro i hi
    have hlt : i < xs.length := by omega
    refine Ev.step (fun k => slices_Index_string_string.l0.eq_2 _ _ _ _ _) (Ev.pos (by omega) (Ev.pos (by omega) (Ev.pos (by omega) ?_)))
    rw [wrapS (Nat.le_of_lt hlt) hn, show rdOf ByteArray.empty xs (i : Int) = xs.getD i ByteArray.empty from rfl, drop_cons xs ByteArray.empty i hlt, strIdx]
    by_cases c : v = xs.getD i ByteArray.empty
    · rw [if_pos c]; exact Ev.pos (ba_ext.2 c) (Ev.now _)
    · rw [if_neg c]; exact Ev.neg (fun h => c (ba_ext.1 h)) (ih (i + 1) (by omega))
theorem strIndex_ev (xs : List ByteArray) (v : ByteArray) (hn : xs.length ≤ 4611686018427387904) : Ev (fun k => slices_Index_string_string.f k xs v) (strIdx v xs 0) := by
  unfold slices_Index_string_string.f
  simpa using strIndex_loop xs v hn xs.length 0 (by omega)
theorem strIdx_ge (v : ByteArray) : ∀ (xs : List ByteArray) (i : Int), strIdx v xs i = -1 ∨ i ≤ strIdx v xs i
  | [], _ => .inl rfl
  | y :: ys, i => by
    rw [strIdx]
    by_cases c : v = y
    · rw [if_pos c]; exact .inr (Int.le_refl _)
    · rw [if_neg c]
      rcases strIdx_ge v ys (i + 1) with h | h
      · exact .inl h
      · exact .inr (by omega)
theorem strIdx_take (v : ByteArray) : ∀ (xs : List ByteArray) (m : Nat) (i : Int), 0 ≤ i → ((0 ≤ strIdx v xs i ∧ strIdx v xs i < i + m) ↔ v ∈ xs.take m)
  | [], m, i, _ => by simp [strIdx]
  | y :: ys, 0, i, h0 => by
    simp only [List.take_zero, List.not_mem_nil, iff_false]
    rcases strIdx_ge v (y :: ys) i with h | h <;> omega
  | y :: ys, m + 1, i, h0 => by
    rw [strIdx, List.take_succ_cons, List.mem_cons]
    by_cases c : v = y
    · rw [if_pos c]; exact ⟨fun _ => .inl c, fun _ => by omega⟩
    · rw [if_neg c]
      have := strIdx_take v ys m (i + 1) (by omega)
      exact ⟨fun h => .inr (this.1 ⟨h.1, by omega⟩), fun h => by
        rcases h with h | h
        · exact absurd h c
        · have := this.2 h; exact ⟨this.1, by omega⟩⟩
theorem strIdx_mem (v : ByteArray) : ∀ (xs : List ByteArray) (i : Int), 0 ≤ i → (0 ≤ strIdx v xs i ↔ v ∈ xs)
  | [], i, _ => by simp [strIdx]
  | y :: ys, i, h0 => by
    rw [strIdx, List.mem_cons]
    by_cases c : v = y
    · rw [if_pos c]; exact ⟨fun _ => .inl c, fun _ => h0⟩
    · rw [if_neg c, strIdx_mem v ys (i + 1) (by omega)]
      exact ⟨fun h => .inr h, fun h => h.resolve_left c⟩
theorem strContains_ev (xs : List ByteArray) (v : ByteArray) (hn : xs.length ≤ 4611686018427387904) : Ev (fun k => slices_Contains_string_string.f k xs v) (decide (v ∈ xs)) := by
  unfold slices_Contains_string_string.f
  refine Ev.bind (strIndex_ev xs v hn) (Ev.is ?_)
  exact decide_eq_decide.2 (strIdx_mem v xs 0 (by omega))
def areCons (l : List ByteArray) : Bool := decide ((∀ x ∈ l, x ∈ conNames) ∧ l.Nodup ∧ 1 ≤ (l.length : Int) ∧ (l.length : Int) ≤ 5)
theorem snoc_nodup (l : List ByteArray) (i : Nat) (h : i < l.length) (hd : (l.take i).Nodup) (hm : ¬ l.getD i ByteArray.empty ∈ l.take i) : (l.take (i + 1)).Nodup := by
  rw [take_succ' l ByteArray.empty i h, List.nodup_append]
  exact ⟨hd, by simp, fun a ha b hb e => hm (by rw [List.mem_singleton.1 hb] at e; rw [← e]; exact ha)⟩
theorem nodup_snoc (l : List ByteArray) (i : Nat) (h : i < l.length) (hd : l.Nodup) : ¬ l.getD i ByteArray.empty ∈ l.take i := fun hm => by
  have := hd.sublist (List.take_sublist (i + 1) l)
  rw [take_succ' l ByteArray.empty i h, List.nodup_append] at this
  exact this.2.2 _ hm _ (List.mem_singleton.2 rfl) rfl
theorem all_snoc (l : List ByteArray) (p : ByteArray → Prop) (i : Nat) (h : i < l.length) (ha : ∀ x ∈ l.take i, p x) (hx : p (l.getD i ByteArray.empty)) : ∀ x ∈ l.take (i + 1), p x := by
  rw [take_succ' l ByteArray.empty i h]
  intro x hm
  rcases List.mem_append.1 hm with hm | hm
  · exact ha x hm
  · rw [List.mem_singleton.1 hm]; exact hx
theorem specAreConstraints_loop (l : List ByteArray) (hn : l.length ≤ 4611686018427387904) : ∀ (d i : Nat), i + d = l.length → (l.take i).Nodup → (∀ x ∈ l.take i, x ∈ conNames) → Ev (fun k => spec_AreConstraints.l0 k l (i : Int)) (areCons l) := by
  intro d
  induction d with
  | zero =>
    intro i hi hd hx
    rw [List.take_of_length_le (by omega)] at hd hx
    refine Ev.step (fun k => spec_AreConstraints.l0.eq_2 _ _ _) (Ev.neg (by omega) (Ev.bind (l1In_ev _ _ _) (Ev.is ?_)))
    exact decide_eq_decide.2 ⟨fun h => ⟨hx, hd, h⟩, fun h => h.2.2⟩
  | succ d ih =>
    intro i hi hd hx
    have hlt : i < l.length := by omega
    refine Ev.step (fun k => spec_AreConstraints.l0.eq_2 _ _ _) (Ev.pos (by omega) (Ev.bind specNames_ev (Ev.pos (by omega) (Ev.bind (l3Has_ev conNames _ (by rw [conNames_len]; omega)) ?_))))
    rw [wrapS (Nat.le_of_lt hlt) hn, show rdOf ByteArray.empty l (i : Int) = l.getD i ByteArray.empty from rfl, Int.toNat_natCast]
    by_cases c : l.getD i ByteArray.empty ∈ conNames
    · refine Ev.pos (decide_eq_true c) (Ev.pos (by omega) (Ev.bind (l3Has_ev _ _ (by rw [List.length_take]; omega)) ?_))
      by_cases c2 : l.getD i ByteArray.empty ∈ l.take i
      · refine Ev.pos (decide_eq_true c2) (Ev.is (decide_eq_false (fun h => nodup_snoc l i hlt h.2.1 c2)).symm)
      · exact Ev.neg (by simpa using c2) (ih (i + 1) (by omega) (snoc_nodup l i hlt hd c2) (all_snoc l _ i hlt hx c))
    · exact Ev.neg (by simpa using c) (Ev.is (decide_eq_false (fun h => c (h.1 _ (mem_getD l _ i hlt)))).symm)
theorem specAreConstraints_ev (l : List ByteArray) (hn : l.length ≤ 4611686018427387904) : Ev (fun k => spec_AreConstraints.f k l) (areCons l) :=
  specAreConstraints_loop l hn l.length 0 (by omega) (by simp) (fun _ h => by cases h)
theorem implAreConstraints_loop (l : List ByteArray) (hn : l.length ≤ 4611686018427387904) : ∀ (d i : Nat), i + d = l.length → (l.take i).Nodup → (∀ x ∈ l.take i, x ∈ conNames) → Ev (fun k => impl_AreConstraints.l0 k l l (l.length : Int) (i : Int)) (areCons l) := by
  intro d
  induction d with
  | zero =>
    intro i hi hd hx
    rw [List.take_of_length_le (by omega)] at hd hx
    refine Ev.step (fun k => impl_AreConstraints.l0.eq_2 _ _ _ _ _) (Ev.neg (by omega) (Ev.bind (within_ev _ _ _) (Ev.is ?_)))
    exact decide_eq_decide.2 ⟨fun h => ⟨hx, hd, h⟩, fun h => h.2.2⟩
  | succ d ih =>
    intro i hi hd hx
    have hlt : i < l.length := by omega
    refine Ev.step (fun k => impl_AreConstraints.l0.eq_2 _ _ _ _ _) (Ev.pos (by omega) (Ev.pos (by omega) (Ev.pos (by omega) (Ev.bind implNames_ev (Ev.bind (strContains_ev conNames _ (by rw [conNames_len]; omega)) ?_)))))
    rw [wrapS (Nat.le_of_lt hlt) hn, show rdOf ByteArray.empty l (i : Int) = l.getD i ByteArray.empty from rfl, Int.toNat_natCast]
    by_cases c : l.getD i ByteArray.empty ∈ conNames
    · refine Ev.pos (decide_eq_true c) (Ev.pos (by omega) (Ev.bind (strContains_ev _ _ (by rw [List.length_take]; omega)) ?_))
      by_cases c2 : l.getD i ByteArray.empty ∈ l.take i
      · refine Ev.pos (decide_eq_true c2) (Ev.is (decide_eq_false (fun h => nodup_snoc l i hlt h.2.1 c2)).symm)
      · exact Ev.neg (by simpa using c2) (ih (i + 1) (by omega) (snoc_nodup l i hlt hd c2) (all_snoc l _ i hlt hx c))
    · exact Ev.neg (by simpa using c) (Ev.is (decide_eq_false (fun h => c (h.1 _ (mem_getD l _ i hlt)))).symm)
theorem implAreConstraints_ev (l : List ByteArray) (hn : l.length ≤ 4611686018427387904) : Ev (fun k => impl_AreConstraints.f k l) (areCons l) :=
  implAreConstraints_loop l hn l.length 0 (by omega) (by simp) (fun _ h => by cases h)
def isMark (a : ByteArray) : Bool := decide (a ∈ conNames.take 6)
theorem specIsMarkedness_ev (a : ByteArray) : Ev (fun k => spec_IsMarkedness.f k a) (isMark a) := by
  unfold spec_IsMarkedness.f
  exact Ev.bind specNames_ev (Ev.pos (by rw [conNames_len]; omega) (Ev.bind (l3Has_ev _ _ (by rw [List.length_take]; omega)) (Ev.now _)))
theorem implIsMarkedness_ev (a : ByteArray) : Ev (fun k => impl_IsMarkedness.f k a) (isMark a) := by
  unfold impl_IsMarkedness.f
  refine Ev.bind implNames_ev (Ev.bind (strIndex_ev _ _ (by rw [conNames_len]; omega)) (Ev.bind (within_ev _ _ _) (Ev.is ?_)))
  have := strIdx_take a conNames 6 0 (by omega)
  exact decide_eq_decide.2 ⟨fun h => this.1 ⟨h.1, by omega⟩, fun h => by have := this.2 h; omega⟩
def areStrata (xs : List (List Int)) (n : Int) : Bool := decide (∀ y ∈ xs, y ≠ []) && isRank xs.flatten n
theorem flatten_len (xs : List (List Int)) (m : Nat) (h : ∀ y ∈ xs, y.length ≤ m) : xs.flatten.length ≤ xs.length * m := by
  induction xs with
  | nil => simp
  | cons y ys ih =>
    rw [List.flatten_cons, List.length_append, List.length_cons, Nat.succ_mul]
    have := ih (fun z hz => h z (List.mem_cons_of_mem _ hz))
    have := h y (List.mem_cons_self ..)
    omega
theorem take_flatten (xs : List (List Int)) (i : Nat) (h : i < xs.length) : (xs.take (i + 1)).flatten = (xs.take i).flatten ++ xs.getD i [] := by
  rw [take_succ' xs [] i h, List.flatten_append]; simp
theorem sub_flatten (xs : List (List Int)) (i : Nat) : (xs.take i).flatten.length ≤ xs.flatten.length := by
  have h : xs.flatten = (xs.take i).flatten ++ (xs.drop i).flatten := by rw [← List.flatten_append, List.take_append_drop]
  rw [h, List.length_append]; omega
theorem areStrata_no (xs : List (List Int)) (n : Int) (i : Nat) (h : i < xs.length) (e : (xs.getD i []).length = 0) : areStrata xs n = false := by
  unfold areStrata
  rw [decide_eq_false (fun z => z _ (mem_getD xs [] i h) (List.eq_nil_of_length_eq_zero e)), Bool.false_and]
theorem specAreStrata_loop (xs : List (List Int)) (n : Int) (hn : xs.length ≤ 4611686018427387904) (hf : xs.flatten.length < 17592186044416) : ∀ (d i : Nat), i + d = xs.length → (∀ y ∈ xs.take i, y ≠ []) →
    Ev (fun k => spec_AreStrata.l0 k xs n (xs.take i).flatten (i : Int)) (areStrata xs n) := by
  intro d
  induction d with
  | zero =>
    intro i hi hy
    rw [List.take_of_length_le (by omega)] at *
    refine Ev.step (fun k => spec_AreStrata.l0.eq_2 _ _ _ _ _) (Ev.neg (by omega) (Ev.bind (specIsRanking_ev _ _ (by omega)) (Ev.is ?_)))
    unfold areStrata
    rw [decide_eq_true hy, Bool.true_and]
  | succ d ih =>
    intro i hi hy
    have hlt : i < xs.length := by omega
    have hs := sub_flatten xs (i + 1)
    rw [take_flatten xs i hlt, List.length_append] at hs
    refine Ev.step (fun k => spec_AreStrata.l0.eq_2 _ _ _ _ _) (Ev.pos (by omega) (Ev.pos (by omega) ?_))
    rw [wrapS (Nat.le_of_lt hlt) hn, show rd_L1 xs (i : Int) = xs.getD i [] from rfl]
    by_cases c : (xs.getD i []).length = 0
    · exact Ev.pos (by omega) (Ev.is (areStrata_no xs n i hlt c).symm)
    · refine Ev.neg (by omega) (Ev.pos (by omega) ?_)
      rw [← take_flatten xs i hlt]
      refine ih (i + 1) (by omega) (fun y hm => ?_)
      rw [take_succ' xs [] i hlt] at hm
      rcases List.mem_append.1 hm with hm | hm
      · exact hy y hm
      · rw [List.mem_singleton.1 hm]; exact fun z => c (by rw [z]; rfl)
theorem specAreStrata_ev (xs : List (List Int)) (n : Int) (hn : xs.length ≤ 4611686018427387904) (hf : xs.flatten.length < 17592186044416) : Ev (fun k => spec_AreStrata.f k xs n) (areStrata xs n) := by
  have := specAreStrata_loop xs n hn hf xs.length 0 (by omega) (fun _ h => by cases h)
  unfold spec_AreStrata.f
  simpa using this
theorem concat_l1 (xs : List (List Int)) (hn : xs.length ≤ 4611686018427387904) (hf : xs.flatten.length < 17592186044416) : ∀ (d i : Nat), i + d = xs.length →
    Ev (fun k => slices_Concat_int_int.l1 k (xs.take i).flatten xs (xs.length : Int) (i : Int)) xs.flatten := by
  intro d
  induction d with
  | zero =>
    intro i hi
    rw [List.take_of_length_le (by omega)]
    exact Ev.step (fun k => slices_Concat_int_int.l1.eq_2 _ _ _ _ _) (Ev.neg (by omega) (Ev.now _))
  | succ d ih =>
    intro i hi
    have hlt : i < xs.length := by omega
    have hs := sub_flatten xs (i + 1)
    rw [take_flatten xs i hlt, List.length_append] at hs
    refine Ev.step (fun k => slices_Concat_int_int.l1.eq_2 _ _ _ _ _) (Ev.pos (by omega) (Ev.pos (by omega) (Ev.pos (by omega) ?_)))
    rw [wrapS (Nat.le_of_lt hlt) hn, show rd_L1 xs (i : Int) = xs.getD i [] from rfl]
    refine Ev.pos (by omega) ?_
    rw [← take_flatten xs i hlt]
    exact ih (i + 1) (by omega)
theorem concat_l0 (xs : List (List Int)) (hn : xs.length ≤ 4611686018427387904) (hf : xs.flatten.length < 17592186044416) : ∀ (d i : Nat), i + d = xs.length →
    Ev (fun k => slices_Concat_int_int.l0 k xs (((xs.take i).flatten.length : Nat) : Int) xs (xs.length : Int) (i : Int)) xs.flatten := by
  intro d
  induction d with
  | zero =>
    intro i hi
    rw [List.take_of_length_le (by omega)]
    refine Ev.step (fun k => slices_Concat_int_int.l0.eq_2 _ _ _ _ _ _) (Ev.neg (by omega) (Ev.bind (a := []) (Ev.flat ?_) ?_))
    · unfold v_slices_GrowNil_int.f; rw [if_pos (by omega)]
    · have := concat_l1 xs hn hf xs.length 0 (by omega)
      simpa using this
  | succ d ih =>
    intro i hi
    have hlt : i < xs.length := by omega
    have hs := sub_flatten xs (i + 1)
    have hl := take_flatten xs i hlt
    have hl2 : (xs.take (i + 1)).flatten.length = (xs.take i).flatten.length + (xs.getD i []).length := by rw [hl, List.length_append]
    have e : wrap64 ((((xs.take i).flatten.length : Nat) : Int) + ((xs.getD i []).length : Int)) = (((xs.take (i + 1)).flatten.length : Nat) : Int) := by rw [wrapI _ (by omega)]; omega
    refine Ev.step (fun k => slices_Concat_int_int.l0.eq_2 _ _ _ _ _ _) (Ev.pos (by omega) (Ev.pos (by omega) (Ev.pos (by omega) ?_)))
    rw [wrapS (Nat.le_of_lt hlt) hn, show rd_L1 xs (i : Int) = xs.getD i [] from rfl, e]
    exact Ev.neg (by omega) (ih (i + 1) (by omega))
theorem concat_ev (xs : List (List Int)) (hn : xs.length ≤ 4611686018427387904) (hf : xs.flatten.length < 17592186044416) : Ev (fun k => slices_Concat_int_int.f k xs) xs.flatten := by
  have := concat_l0 xs hn hf xs.length 0 (by omega)
  unfold slices_Concat_int_int.f
  simpa using this
theorem implAreStrata_loop (xs : List (List Int)) (n : Int) (hn : xs.length ≤ 4611686018427387904) (hf : xs.flatten.length < 17592186044416) : ∀ (d i : Nat), i + d = xs.length → (∀ y ∈ xs.take i, y ≠ []) →
    Ev (fun k => impl_AreStrata.l0 k xs n xs (xs.length : Int) (i : Int)) (areStrata xs n) := by
  intro d
  induction d with
  | zero =>
    intro i hi hy
    rw [List.take_of_length_le (by omega)] at *
    refine Ev.step (fun k => impl_AreStrata.l0.eq_2 _ _ _ _ _ _) (Ev.neg (by omega) (Ev.bind (concat_ev xs hn hf) (Ev.bind (implIsRanking_ev _ _) (Ev.is ?_))))
    unfold areStrata
    rw [decide_eq_true hy, Bool.true_and]
  | succ d ih =>
    intro i hi hy
    have hlt : i < xs.length := by omega
    refine Ev.step (fun k => impl_AreStrata.l0.eq_2 _ _ _ _ _ _) (Ev.pos (by omega) (Ev.pos (by omega) (Ev.pos (by omega) ?_)))
    rw [wrapS (Nat.le_of_lt hlt) hn, show rd_L1 xs (i : Int) = xs.getD i [] from rfl]
    by_cases c : (xs.getD i []).length = 0
    · exact Ev.pos (by omega) (Ev.is (areStrata_no xs n i hlt c).symm)
    · refine Ev.neg (by omega) (ih (i + 1) (by omega) (fun y hm => ?_))
      rw [take_succ' xs [] i hlt] at hm
      rcases List.mem_append.1 hm with hm | hm
      · exact hy y hm
      · rw [List.mem_singleton.1 hm]; exact fun z => c (by rw [z]; rfl)
theorem implAreStrata_ev (xs : List (List Int)) (n : Int) (hn : xs.length ≤ 4611686018427387904) (hf : xs.flatten.length < 17592186044416) : Ev (fun k => impl_AreStrata.f k xs n) (areStrata xs n) := by
  have := implAreStrata_loop xs n hn hf xs.length 0 (by omega) (fun _ h => by cases h)
  unfold impl_AreStrata.f
  simpa using this
def restIn (names : List ByteArray) (above : Int) : List Int → Int → Int → Int × Int
  | [], n, here => (n, here)
  | k :: ks, n, here => if isMark (names.getD k.toNat ByteArray.empty) = true then restIn names above ks n (wrap64 (here + 1)) else restIn names above ks (wrap64 (n + above)) here
def restOut (names : List ByteArray) : List (List Int) → Int → Int → Int
  | [], n, _ => n
  | own :: rest, n, above => restOut names rest (restIn names above own n 0).1 (wrap64 (above + (restIn names above own n 0).2))
def restMeasure (names : List ByteArray) (xs : List (List Int)) : Int := if (areCons names && areStrata xs (names.length : Int)) = true then restOut names xs 0 0 else -1
theorem specRest_in (names : List ByteArray) (xs : List (List Int)) (i : Nat) (hi : i < xs.length) (above : Int) (hn : (xs.getD i []).length ≤ 4611686018427387904) (hx : ∀ x ∈ xs.getD i [], 0 ≤ x ∧ x < (names.length : Int)) (r : Int) : ∀ (d j : Nat) (n here : Int), j + d = (xs.getD i []).length →
    Ev (fun k => spec_RestrictMeasure.l0 k names xs (restIn names above ((xs.getD i []).drop j) n here).1 (wrap64 (above + (restIn names above ((xs.getD i []).drop j) n here).2)) (wrap64 ((i : Int) + 1))) r →
    Ev (fun k => spec_RestrictMeasure.l1 k names xs n above (i : Int) here (j : Int)) r := by
  intro d
  induction d with
  | zero =>
    intro j n here hj hc
    rw [List.drop_of_length_le (by omega), restIn] at hc
    refine Ev.step (fun k => spec_RestrictMeasure.l1.eq_2 _ _ _ _ _ _ _ _) (Ev.pos (by omega) (Ev.pos (by omega) ?_))
    rw [show rd_L1 xs (i : Int) = xs.getD i [] from rfl]
    exact Ev.neg (by omega) hc
  | succ d ih =>
    intro j n here hj hc
    have hlt : j < (xs.getD i []).length := by omega
    have hb := hx _ (mem_getD _ 0 j hlt)
    rw [drop_cons _ 0 j hlt, restIn] at hc
    refine Ev.step (fun k => spec_RestrictMeasure.l1.eq_2 _ _ _ _ _ _ _ _) (Ev.pos (by omega) (Ev.pos (by omega) ?_))
    rw [show rd_L1 xs (i : Int) = xs.getD i [] from rfl, rdN, wrapS (Nat.le_of_lt hlt) hn]
    refine Ev.pos (by omega) (Ev.pos (by omega) (Ev.pos hb.1 (Ev.pos hb.2 (Ev.bind (specIsMarkedness_ev _) ?_))))
    by_cases c : isMark (names.getD ((xs.getD i []).getD j 0).toNat ByteArray.empty) = true
    · rw [if_pos c] at hc
      exact Ev.pos c (ih (j + 1) _ _ (by omega) hc)
    · rw [if_neg c] at hc
      exact Ev.neg c (ih (j + 1) _ _ (by omega) hc)
theorem specRest_out (names : List ByteArray) (xs : List (List Int)) (hn : xs.length ≤ 4611686018427387904) (hy : ∀ y ∈ xs, y.length ≤ 4611686018427387904) (hx : ∀ y ∈ xs, ∀ x ∈ y, 0 ≤ x ∧ x < (names.length : Int)) : ∀ (d i : Nat) (n above : Int), i + d = xs.length →
    Ev (fun k => spec_RestrictMeasure.l0 k names xs n above (i : Int)) (restOut names (xs.drop i) n above) := by
  intro d
  induction d with
  | zero =>
    intro i n above hi
    rw [List.drop_of_length_le (by omega)]
    exact Ev.step (fun k => spec_RestrictMeasure.l0.eq_2 _ _ _ _ _ _) (Ev.neg (by omega) (Ev.now _))
  | succ d ih =>
    intro i n above hi
    have hlt : i < xs.length := by omega
    have hm := mem_getD xs [] i hlt
    rw [drop_cons xs [] i hlt, restOut]
    refine Ev.step (fun k => spec_RestrictMeasure.l0.eq_2 _ _ _ _ _ _) (Ev.pos (by omega) ?_)
    refine specRest_in names xs i hlt above (hy _ hm) (hx _ hm) _ (xs.getD i []).length 0 n 0 (by omega) ?_
    rw [List.drop_zero, wrapS (Nat.le_of_lt hlt) hn]
    exact ih (i + 1) _ _ (by omega)
theorem implRest_in (names : List ByteArray) (xs : List (List Int)) (i : Nat) (own : List Int) (above : Int) (hn : own.length ≤ 4611686018427387904) (hx : ∀ x ∈ own, 0 ≤ x ∧ x < (names.length : Int)) (r : Int) : ∀ (d j : Nat) (n here : Int), j + d = own.length →
    Ev (fun k => impl_RestrictMeasure.l0 k names (restIn names above (own.drop j) n here).1 (wrap64 (above + (restIn names above (own.drop j) n here).2)) xs (xs.length : Int) (wrap64 ((i : Int) + 1))) r →
    Ev (fun k => impl_RestrictMeasure.l1 k names n above here xs (xs.length : Int) (i : Int) own (own.length : Int) (j : Int)) r := by
  intro d
  induction d with
  | zero =>
    intro j n here hj hc
    rw [List.drop_of_length_le (by omega), restIn] at hc
    exact Ev.step (fun k => impl_RestrictMeasure.l1.eq_2 _ _ _ _ _ _ _ _ _ _ _) (Ev.neg (by omega) hc)
  | succ d ih =>
    intro j n here hj hc
    have hlt : j < own.length := by omega
    have hb := hx _ (mem_getD _ 0 j hlt)
    rw [drop_cons _ 0 j hlt, restIn] at hc
    refine Ev.step (fun k => impl_RestrictMeasure.l1.eq_2 _ _ _ _ _ _ _ _ _ _ _) (Ev.pos (by omega) (Ev.pos (by omega) (Ev.pos (by omega) ?_)))
    rw [rdN, wrapS (Nat.le_of_lt hlt) hn]
    refine Ev.pos hb.1 (Ev.pos hb.2 (Ev.bind (implIsMarkedness_ev _) ?_))
    by_cases c : isMark (names.getD (own.getD j 0).toNat ByteArray.empty) = true
    · rw [if_pos c] at hc
      exact Ev.pos c (ih (j + 1) _ _ (by omega) hc)
    · rw [if_neg c] at hc
      exact Ev.neg c (ih (j + 1) _ _ (by omega) hc)
theorem implRest_out (names : List ByteArray) (xs : List (List Int)) (hn : xs.length ≤ 4611686018427387904) (hy : ∀ y ∈ xs, y.length ≤ 4611686018427387904) (hx : ∀ y ∈ xs, ∀ x ∈ y, 0 ≤ x ∧ x < (names.length : Int)) : ∀ (d i : Nat) (n above : Int), i + d = xs.length →
    Ev (fun k => impl_RestrictMeasure.l0 k names n above xs (xs.length : Int) (i : Int)) (restOut names (xs.drop i) n above) := by
  intro d
  induction d with
  | zero =>
    intro i n above hi
    rw [List.drop_of_length_le (by omega)]
    exact Ev.step (fun k => impl_RestrictMeasure.l0.eq_2 _ _ _ _ _ _ _) (Ev.neg (by omega) (Ev.now _))
  | succ d ih =>
    intro i n above hi
    have hlt : i < xs.length := by omega
    have hm := mem_getD xs [] i hlt
    rw [drop_cons xs [] i hlt, restOut]
    refine Ev.step (fun k => impl_RestrictMeasure.l0.eq_2 _ _ _ _ _ _ _) (Ev.pos (by omega) (Ev.pos (by omega) (Ev.pos (by omega) ?_)))
    rw [show rd_L1 xs (i : Int) = xs.getD i [] from rfl]
    refine implRest_in names xs i (xs.getD i []) above (hy _ hm) (hx _ hm) _ (xs.getD i []).length 0 n 0 (by omega) ?_
    rw [List.drop_zero, wrapS (Nat.le_of_lt hlt) hn]
    exact ih (i + 1) _ _ (by omega)
theorem strata_bounds {xs : List (List Int)} {n : Int} (h : areStrata xs n = true) : ∀ y ∈ xs, ∀ x ∈ y, 0 ≤ x ∧ x < n := by
  unfold areStrata at h
  rw [Bool.and_eq_true] at h
  have H := of_decide_eq_true h.2
  exact fun y hy x hx => H.2.2.2.2 x (List.mem_flatten.2 ⟨y, hy, hx⟩)
theorem specRestrictMeasure_ev (names : List ByteArray) (xs : List (List Int)) (hl : names.length ≤ 4611686018427387904) (hn : xs.length ≤ 4611686018427387904) (hy : ∀ y ∈ xs, y.length ≤ 4611686018427387904) (hf : xs.flatten.length < 17592186044416) : Ev (fun k => spec_RestrictMeasure.f k names xs) (restMeasure names xs) := by
  unfold spec_RestrictMeasure.f restMeasure
  refine Ev.bind (specAreConstraints_ev names hl) ?_
  by_cases c : areCons names = true
  · refine Ev.pos c (Ev.bind (specAreStrata_ev xs _ hn hf) (Ev.step (fun k => spec_RestrictMeasure.j0.eq_2 _ _ _ _) ?_))
    by_cases c' : areStrata xs (names.length : Int) = true
    · rw [if_pos (by rw [c, c']; rfl), c']
      exact Ev.neg (by simp) (specRest_out names xs hn hy (strata_bounds c') xs.length 0 0 0 (by omega))
    · rw [if_neg (by rw [c, Bool.true_and]; exact c'), show areStrata xs (names.length : Int) = false from by simpa using c']
      exact Ev.pos rfl (Ev.now _)
  · refine Ev.neg c (Ev.step (fun k => spec_RestrictMeasure.j0.eq_2 _ _ _ _) (Ev.pos rfl (Ev.is ?_)))
    rw [if_neg (by rw [show areCons names = false from by simpa using c, Bool.false_and]; simp)]
theorem implRestrictMeasure_ev (names : List ByteArray) (xs : List (List Int)) (hl : names.length ≤ 4611686018427387904) (hn : xs.length ≤ 4611686018427387904) (hy : ∀ y ∈ xs, y.length ≤ 4611686018427387904) (hf : xs.flatten.length < 17592186044416) : Ev (fun k => impl_RestrictMeasure.f k names xs) (restMeasure names xs) := by
  unfold impl_RestrictMeasure.f restMeasure
  refine Ev.bind (implAreConstraints_ev names hl) ?_
  by_cases c : areCons names = true
  · refine Ev.pos c (Ev.bind (implAreStrata_ev xs _ hn hf) (Ev.step (fun k => impl_RestrictMeasure.j0.eq_2 _ _ _ _) ?_))
    by_cases c' : areStrata xs (names.length : Int) = true
    · rw [if_pos (by rw [c, c']; rfl), c']
      exact Ev.neg (by simp) (implRest_out names xs hn hy (strata_bounds c') xs.length 0 0 0 (by omega))
    · rw [if_neg (by rw [c, Bool.true_and]; exact c'), show areStrata xs (names.length : Int) = false from by simpa using c']
      exact Ev.pos rfl (Ev.now _)
  · refine Ev.neg c (Ev.step (fun k => impl_RestrictMeasure.j0.eq_2 _ _ _ _) (Ev.pos rfl (Ev.is ?_)))
    rw [if_neg (by rw [show areCons names = false from by simpa using c, Bool.false_and]; simp)]
def single (r : List Int) : List (List Int) := r.map (fun x => [x])
def bestFold (names : List ByteArray) : List (List Int) → Int → Int
  | [], b => b
  | r :: rs, b => bestFold names rs (mx b (restMeasure names (single r)))
theorem specSingle_loop (r : List Int) (hr : r.length ≤ 5) : ∀ (d i : Nat) (out : List (List Int)), i + d = r.length → out.length ≤ i → Ev (fun k => spec_l24Single.l0 k r out (i : Int)) (out ++ single (r.drop i)) := by
  intro d
  induction d with
  | zero =>
    intro i out hi ho
    rw [List.drop_of_length_le (by omega)]
    exact Ev.step (fun k => spec_l24Single.l0.eq_2 _ _ _ _) (Ev.neg (by omega) (Ev.is (by simp [single])))
  | succ d ih =>
    intro i out hi ho
    have hlt : i < r.length := by omega
    refine Ev.step (fun k => spec_l24Single.l0.eq_2 _ _ _ _) (Ev.pos (by omega) (Ev.pos (by omega) (Ev.pos (by omega) ?_)))
    rw [rdN, wrapS (Nat.le_of_lt hlt) (by omega), drop_cons r 0 i hlt, show single (r.getD i 0 :: r.drop (i + 1)) = [r.getD i 0] :: single (r.drop (i + 1)) from rfl]
    have := ih (i + 1) (out ++ [[r.getD i 0]]) (by omega) (by rw [List.length_append, List.length_singleton]; omega)
    rw [List.append_assoc] at this
    exact this
theorem specSingle_ev (r : List Int) (hr : r.length ≤ 5) : Ev (fun k => spec_l24Single.f k r) (single r) := by
  have := specSingle_loop r hr r.length 0 [] (by omega) (by simp)
  rw [List.drop_zero, List.nil_append] at this
  exact this
theorem single_facts (r : List Int) (hr : r.length ≤ 5) : (single r).length ≤ 4611686018427387904 ∧ (∀ y ∈ single r, y.length ≤ 4611686018427387904) ∧ (single r).flatten.length < 17592186044416 := by
  have h1 : (single r).length ≤ 5 := by rw [single, List.length_map]; exact hr
  have h2 : ∀ y ∈ single r, y.length ≤ 1 := by
    intro y hy
    obtain ⟨x, _, rfl⟩ := List.mem_map.1 hy
    exact Nat.le_refl _
  have h3 := flatten_len (single r) 1 h2
  exact ⟨by omega, fun y hy => by have := h2 y hy; omega, by omega⟩
theorem specBest_loop (names : List ByteArray) (M : List (List Int)) (hN : names.length ≤ 4611686018427387904) (hM : M.length ≤ 120) (hr : ∀ r ∈ M, r.length ≤ 5) : ∀ (d i : Nat) (b : Int), i + d = M.length → Ev (fun k => spec_BestMeasure.l0 k names b M (i : Int)) (bestFold names (M.drop i) b) := by
  intro d
  induction d with
  | zero =>
    intro i b hi
    rw [List.drop_of_length_le (by omega)]
    exact Ev.step (fun k => spec_BestMeasure.l0.eq_2 _ _ _ _ _) (Ev.neg (by omega) (Ev.now _))
  | succ d ih =>
    intro i b hi
    have hlt : i < M.length := by omega
    have h5 := hr _ (mem_getD M [] i hlt)
    obtain ⟨f1, f2, f3⟩ := single_facts _ h5
    refine Ev.step (fun k => spec_BestMeasure.l0.eq_2 _ _ _ _ _) (Ev.pos (by omega) (Ev.pos (by omega) ?_))
    rw [show rd_L1 M (i : Int) = M.getD i [] from rfl, wrapS (Nat.le_of_lt hlt) (by omega), drop_cons M [] i hlt, bestFold]
    exact Ev.bind (specSingle_ev _ h5) (Ev.bind (specRestrictMeasure_ev names _ hN f1 f2 f3) (ih (i + 1) _ (by omega)))
theorem implBest_in (names : List ByteArray) (b : Int) (M : List (List Int)) (i : Nat) (own : List Int) (ho : own.length ≤ 5) (res : Int)
    (h : Ev (fun k => (impl_RestrictMeasure.f k names (single own)).bind fun t => impl_BestMeasure.l0 k names (mx b t) M (M.length : Int) (wrap64 ((i : Int) + 1))) res) :
    ∀ (d j : Nat) (out : List (List Int)), j + d = own.length → out.length ≤ j → out ++ single (own.drop j) = single own → Ev (fun k => impl_BestMeasure.l1 k names b out M (M.length : Int) (i : Int) own (own.length : Int) (j : Int)) res := by
  intro d
  induction d with
  | zero =>
    intro j out hj hl e
    rw [List.drop_of_length_le (by omega), show single [] = [] from rfl, List.append_nil] at e
    subst e
    exact Ev.step (fun k => impl_BestMeasure.l1.eq_2 _ _ _ _ _ _ _ _ _ _) (Ev.neg (by omega) h)
  | succ d ih =>
    intro j out hj hl e
    have hlt : j < own.length := by omega
    refine Ev.step (fun k => impl_BestMeasure.l1.eq_2 _ _ _ _ _ _ _ _ _ _) (Ev.pos (by omega) (Ev.pos (by omega) (Ev.pos (by omega) (Ev.pos (by omega) ?_))))
    rw [rdN, wrapS (Nat.le_of_lt hlt) (by omega)]
    rw [drop_cons own 0 j hlt, show single (own.getD j 0 :: own.drop (j + 1)) = [own.getD j 0] :: single (own.drop (j + 1)) from rfl] at e
    exact ih (j + 1) (out ++ [[own.getD j 0]]) (by omega) (by rw [List.length_append, List.length_singleton]; omega) (by rw [List.append_assoc]; exact e)
theorem implBest_loop (names : List ByteArray) (M : List (List Int)) (hN : names.length ≤ 4611686018427387904) (hM : M.length ≤ 120) (hr : ∀ r ∈ M, r.length ≤ 5) : ∀ (d i : Nat) (b : Int), i + d = M.length → Ev (fun k => impl_BestMeasure.l0 k names b M (M.length : Int) (i : Int)) (bestFold names (M.drop i) b) := by
  intro d
  induction d with
  | zero =>
    intro i b hi
    rw [List.drop_of_length_le (by omega)]
    exact Ev.step (fun k => impl_BestMeasure.l0.eq_2 _ _ _ _ _ _) (Ev.neg (by omega) (Ev.now _))
  | succ d ih =>
    intro i b hi
    have hlt : i < M.length := by omega
    have h5 := hr _ (mem_getD M [] i hlt)
    obtain ⟨f1, f2, f3⟩ := single_facts _ h5
    refine Ev.step (fun k => impl_BestMeasure.l0.eq_2 _ _ _ _ _ _) (Ev.pos (by omega) (Ev.pos (by omega) (Ev.pos (by omega) ?_)))
    rw [show rd_L1 M (i : Int) = M.getD i [] from rfl, drop_cons M [] i hlt, bestFold]
    refine implBest_in names b M i _ h5 _ ?_ (M.getD i []).length 0 [] (by omega) (by simp) (by rw [List.drop_zero, List.nil_append])
    rw [wrapS (Nat.le_of_lt hlt) (by omega)]
    exact Ev.bind (implRestrictMeasure_ev names _ hN f1 f2 f3) (ih (i + 1) _ (by omega))
theorem bestMeasure_ev (l : List IRw) (names : List ByteArray) (hN : names.length ≤ 4611686018427387904) (hl : l.length ≤ 4611686018427387904) (hm : ∀ y ∈ l, y.f0.length ≤ 4611686018427387904) : ∃ r, Ev (fun k => spec_BestMeasure.f k l names) r ∧ Ev (fun k => impl_BestMeasure.f k l names) r := by
  unfold spec_BestMeasure.f impl_BestMeasure.f
  by_cases c : areCons names = true
  · have h5 : 1 ≤ (names.length : Int) ∧ (names.length : Int) ≤ 5 := ⟨(of_decide_eq_true c).2.2.1, (of_decide_eq_true c).2.2.2⟩
    obtain ⟨L, s1, s2, hL, hr⟩ := allRank_ev _ h5
    obtain ⟨m1, m2⟩ := models_len l (names.length : Int) L hL hr
    refine ⟨bestFold names (models l (names.length : Int) L) (-1), ?_, ?_⟩
    · refine Ev.bind (specAreConstraints_ev names hN) (Ev.pos c (Ev.bind (specModelsOf_ev l _ L s1 hl hm hL hr) ?_))
      have := specBest_loop names _ hN m1 m2 _ 0 (-1) (Nat.zero_add _)
      rw [List.drop_zero] at this
      exact this
    · refine Ev.bind (implAreConstraints_ev names hN) (Ev.pos c (Ev.bind (implModelsOf_ev l _ L s2 hl hm hL hr) ?_))
      have := implBest_loop names _ hN m1 m2 _ 0 (-1) (Nat.zero_add _)
      rw [List.drop_zero] at this
      exact this
  · exact ⟨-1, Ev.bind (specAreConstraints_ev names hN) (Ev.neg c (Ev.now _)), Ev.bind (implAreConstraints_ev names hN) (Ev.neg c (Ev.now _))⟩
theorem szStringS_loop (xs : List ByteArray) (hn : xs.length ≤ 4611686018427387904) (hy : ∀ y ∈ xs, y.size ≤ maxLen) : ∀ (d i : Nat) (left : Int), i + d = xs.length → 0 ≤ left → left ≤ 1048576 →
    ∃ r, Ev (fun k => laws_szStringS.l0 k xs left (i : Int)) r ∧ -1 ≤ r ∧ r ≤ left ∧ (0 ≤ r → ∀ y ∈ xs.drop i, y.size ≤ 1048576) := by
  intro d
  induction d with
  | zero =>
    intro i left hi h0 h1
    refine ⟨left, Ev.step (fun k => laws_szStringS.l0.eq_2 _ _ _ _) (Ev.neg (by omega) (Ev.now _)), by omega, by omega, fun _ y hm => ?_⟩
    rw [List.drop_of_length_le (by omega)] at hm
    cases hm
  | succ d ih =>
    intro i left hi h0 h1
    have hlt : i < xs.length := by omega
    have hs := hy _ (mem_getD xs ByteArray.empty i hlt)
    unfold maxLen at hs
    have e : rdOf ByteArray.empty xs (i : Int) = xs.getD i ByteArray.empty := rfl
    by_cases c : left - ((xs.getD i ByteArray.empty).size : Int) < 0
    · exact ⟨-1, Ev.step (fun k => laws_szStringS.l0.eq_2 _ _ _ _) (Ev.pos (by omega) (Ev.pos (by omega) (Ev.pos (by rw [e, wrapI _ (by omega)]; exact c) (Ev.now _)))), by omega, by omega, fun h => by omega⟩
    · obtain ⟨r, hr, hr1, hr2, hr3⟩ := ih (i + 1) (left - ((xs.getD i ByteArray.empty).size : Int)) (by omega) (by omega) (by omega)
      refine ⟨r, Ev.step (fun k => laws_szStringS.l0.eq_2 _ _ _ _) (Ev.pos (by omega) (Ev.pos (by omega) (Ev.neg (by rw [e, wrapI _ (by omega)]; exact c) ?_))), hr1, by omega, fun h y hm => ?_⟩
      · rw [e, wrapI _ (by omega), wrapS (Nat.le_of_lt hlt) hn]; exact hr
      · rw [drop_cons xs ByteArray.empty i hlt] at hm
        rcases List.mem_cons.1 hm with rfl | hm
        · omega
        · exact hr3 h y hm
theorem szStringS_ev (xs : List ByteArray) (hn : xs.length ≤ maxLen) (hy : ∀ y ∈ xs, y.size ≤ maxLen) (a : Int) (h0 : 0 ≤ a) (h1 : a ≤ 1048576) :
    ∃ r, Ev (fun k => laws_szStringS.f k xs a) r ∧ -1 ≤ r ∧ r ≤ a ∧ (0 ≤ r → xs.length ≤ 1048576 ∧ ∀ y ∈ xs, y.size ≤ 1048576) :=
  sz_slice (fun k a => laws_szStringS.f k xs a) (fun k left i => laws_szStringS.l0 k xs left i) xs (fun y => y.size ≤ 1048576) hn (fun _ _ => rfl)
    (fun hl left h0 h1 => szStringS_loop xs hl hy xs.length 0 left (by omega) h0 h1) a h0 h1
theorem toStringS_ev (xs : List ByteArray) (hn : xs.length ≤ 1048576) : Ev (fun k => laws_toStringS.f k xs) xs := by
  unfold laws_toStringS.f
  refine Ev.pos (by omega) (Ev.pos (by omega) ?_)
  have h := to_loop (fun k ys i => laws_toStringS.l0 k xs ys i) (fun _ y => some y) (fun t => t) (fun y => y) xs ByteArray.empty (by omega) (fun k ys i => laws_toStringS.l0.eq_2 _ _ _ _)
    (fun y _ => Ev.now _) xs.length 0 (List.replicate xs.length (⟨#[]⟩ : ByteArray)) (by omega) (by rw [List.length_replicate]) rfl
  rw [List.map_id'] at h
  rw [Int.toNat_natCast]
  exact h
theorem eqStringS_ev (xs ys : List ByteArray) (hn : xs.length ≤ 4611686018427387904) : Ev (fun k => laws_eqStringS.f k xs ys) (decide (xs = ys)) :=
  eq_slice _ (fun k i => laws_eqStringS.l0 k xs ys i) xs ys (fun _ => rfl)
    (fun e => eq_loop _ (fun _ a b => some (decide (a = b))) xs ys ByteArray.empty e hn (fun k i => by rw [laws_eqStringS.l0.eq_2]; simp only [Option.bind_some, decide_eq_true_eq, ba_ext]; rfl) (fun a _ b _ => Ev.now _) xs.length 0 (by omega))
theorem FnExactBestMeasure (l0 : List LRw) (l1 : List (ByteArray)) (h0 : (l0.length ≤ maxLen ∧ ∀ y1 ∈ l0, ((y1.f0.length ≤ maxLen ∧ ∀ y2 ∈ y1.f0, (Lit.int .i64 y2).wf = true)))) (h1 : (l1.length ≤ maxLen ∧ ∀ y3 ∈ l1, y3.size ≤ maxLen)) : ∃ k, laws_FnExactBestMeasure.f k l0 l1 = some true := by
  refine Ev.rounds (g := fun k => laws_FnExactBestMeasure.f k l0 l1) ?_
  unfold laws_FnExactBestMeasure.f
  obtain ⟨q1, e1, a1, a2, a3⟩ := szRowS_ev l0 h0.1 (fun y hy => (h0.2 y hy).1) 1048576 (by omega) (by omega)
  refine Ev.bind e1 ?_
  by_cases c1 : q1 < 0
  · exact Ev.pos c1 (Ev.now _)
  refine Ev.neg c1 ?_
  obtain ⟨b1, b2⟩ := a3 (by omega)
  obtain ⟨q2, e2, a4, a5, a6⟩ := szStringS_ev l1 h1.1 h1.2 q1 (by omega) (by omega)
  refine Ev.bind e2 ?_
  by_cases c2 : q2 < 0
  · exact Ev.pos c2 (Ev.now _)
  refine Ev.neg c2 ?_
  obtain ⟨b3, b4⟩ := a6 (by omega)
  have t0 := toRowS_ev l0 b1 b2
  have t1 := toStringS_ev l1 b3
  have hl : (l0.map toRw).length ≤ 1048576 := by rw [List.length_map]; exact b1
  have hy : ∀ y ∈ l0.map toRw, y.f0.length ≤ 4611686018427387904 := by
    intro y hy
    obtain ⟨z, hz, rfl⟩ := List.mem_map.1 hy
    have := b2 z hz
    show z.f0.length ≤ 4611686018427387904
    omega
  generalize l0.map toRw = m0 at *
  obtain ⟨r, hs, hi⟩ := bestMeasure_ev m0 l1 (by omega) (by omega) hy
  refine Ev.bind t0 (Ev.bind t1 (Ev.bind hs (Ev.bind t0 (Ev.bind t1 (Ev.bind hi (Ev.pos rfl ?_))))))
  refine Ev.bind t0 (Ev.bind (eqRowS_ev _ _ (by omega) hy) (Ev.pos (decide_eq_true rfl) ?_))
  exact Ev.bind t1 (Ev.bind (eqStringS_ev _ _ (by omega)) (Ev.pos (decide_eq_true rfl) (Ev.now _)))
end Go.Proofs.Ytndcgckgkkhbpaa.Pure
