/- The program's WeightsOfRanking and the reference's answer alike, the arguments stay, and what is returned is new. Conditions: what a slice may hold at most. -/
import Derived.Test.YtcebnmagigadpaaPFnExactWeightsOfRankingx0
import Derived.Test.YtcebnmagigadpaaPFnExactWeightsOfRankingx1
import Derived.Test.YtcebnmagigadpaaPFnExactWeightsOfRankingx2
import Derived.Test.YtcebnmagigadpaaPFnExactWeightsOfRankingx3
import Derived.Test.YtcebnmagigadpaaKit
import Derived.WideShapes
import Derived.Laws.Strings
set_option linter.unusedVariables false
set_option linter.unusedSimpArgs false
namespace Go.Proofs.Ytcebnmagigadpaa.Pure
open Go.RowKit Go.WideShapes Go.Proofs.Ytcebnmagigadpaa.PFnExactWeightsOfRanking Go.Proofs.Ytcebnmagigadpaa.Kit Go.Proofs.YtcebnmagigadpaaW.PrintWords Go.Proofs.YtcebnmagigadpaaW.PrintLast
theorem toIntS_loop (xs : List Int) (hn : xs.length ≤ 4611686018427387904) : ∀ (d i : Nat) (ys : List Int), i + d = xs.length → ys.length = xs.length → ys.take i = xs.take i →
    Ev (fun k => laws_toIntS.l0 k xs ys (i : Int)) xs := by
  intro d
  induction d with
  | zero =>
    intro i ys hi hl ht
    refine Ev.step (fun k => laws_toIntS.l0.eq_2 _ _ _ _) ?_
    refine Ev.neg (by omega) (Ev.is ?_)
    have e : i = xs.length := by omega
    rw [e, List.take_length, ← hl, List.take_length] at ht
    exact ht
  | succ d ih =>
    intro i ys hi hl ht
    have hlt : i < xs.length := by omega
    obtain ⟨h1, h2⟩ := set_fill xs ys 0 i hlt hl ht
    refine Ev.step (fun k => laws_toIntS.l0.eq_2 _ _ _ _) ?_
    refine Ev.pos (by omega) (Ev.pos (by omega) (Ev.pos (by omega) ?_))
    rw [wrapS (Nat.le_of_lt hlt) hn, rdN, Int.toNat_natCast]
    exact ih (i + 1) _ (by omega) h1 h2
theorem toIntS_ev (xs : List Int) (hn : xs.length ≤ 35184372088832) : Ev (fun k => laws_toIntS.f k xs) xs := by
  unfold laws_toIntS.f
  refine Ev.pos (by omega) (Ev.pos (by omega) ?_)
  rw [Int.toNat_natCast]
  exact toIntS_loop xs (by omega) xs.length 0 _ (by omega) (by rw [List.length_replicate]) rfl
theorem eqIntS_loop (xs ys : List Int) (hl : xs.length = ys.length) (hn : xs.length ≤ 4611686018427387904) : ∀ (d i : Nat), i + d = xs.length →
    Ev (fun k => laws_eqIntS.l0 k xs ys (i : Int)) (decide (xs.drop i = ys.drop i)) := by
  intro d
  induction d with
  | zero =>
    intro i hi
    refine Ev.step (fun k => laws_eqIntS.l0.eq_2 _ _ _ _) ?_
    refine Ev.neg (by omega) (Ev.is ?_)
    rw [List.drop_of_length_le (by omega), List.drop_of_length_le (by omega)]
    rfl
  | succ d ih =>
    intro i hi
    have hlt : i < xs.length := by omega
    refine Ev.step (fun k => laws_eqIntS.l0.eq_2 _ _ _ _) ?_
    refine Ev.pos (by omega) (Ev.pos (by omega) (Ev.pos (by omega) ?_))
    rw [wrapS (Nat.le_of_lt hlt) hn, rdN, rdN, drop_cons xs 0 i hlt, drop_cons ys 0 i (by omega)]
    by_cases e : xs.getD i 0 = ys.getD i 0
    · refine Ev.pos e (Ev.to (ih (i + 1) (by omega)) ?_)
      rw [e]
      exact decide_eq_decide.2 ⟨fun h => by rw [h], fun h => (List.cons.inj h).2⟩
    · exact Ev.neg e (Ev.is (decide_eq_false (fun h => e (List.cons.inj h).1)).symm)
theorem eqIntS_ev (xs ys : List Int) (hn : xs.length ≤ 4611686018427387904) : Ev (fun k => laws_eqIntS.f k xs ys) (decide (xs = ys)) := by
  unfold laws_eqIntS.f
  by_cases e : xs.length = ys.length
  · exact Ev.pos (by omega) (eqIntS_loop xs ys e hn xs.length 0 (by omega))
  · refine Ev.neg (by omega) (Ev.is ?_)
    have : ¬ xs = ys := fun h => e (by rw [h])
    simp [this]
def marked (n : Nat) (m : Int) : List Int := (List.range n).map (fun i : Nat => m + (i : Int))
theorem marked_length (n : Nat) (m : Int) : (marked n m).length = n := by simp [marked]
theorem marked_at (n : Nat) (m : Int) (i : Nat) (h : i < n) : (marked n m).getD i 0 = m + i := by
  rw [getD_at _ _ _ (by simpa [marked] using h)]; simp [marked]
theorem markIntS_loop (n : Nat) (m : Int) (h0 : 0 ≤ m) (hn : m + n ≤ 4611686018427387904) : ∀ (d i : Nat) (ys : List Int), i + d = n → ys.length = n → ys.take i = (marked n m).take i → Ev (fun k => laws_markIntS.l0 k ys (m + i) (i : Int)) (m + n, marked n m) := by
  intro d
  induction d with
  | zero =>
    intro i ys hi hl ht
    obtain rfl : i = n := by omega
    refine Ev.step (fun k => laws_markIntS.l0.eq_2 _ _ _ _) (Ev.neg (by omega) (Ev.is ?_))
    rw [List.take_of_length_le (by omega), List.take_of_length_le (by rw [marked_length]; omega)] at ht
    rw [ht]
  | succ d ih =>
    intro i ys hi hl ht
    have hlt : i < n := by omega
    obtain ⟨h1, h2⟩ := set_fill (marked n m) ys 0 i (by rw [marked_length]; exact hlt) (by rw [marked_length]; exact hl) ht
    rw [marked_at n m i hlt, marked_length] at *
    refine Ev.step (fun k => laws_markIntS.l0.eq_2 _ _ _ _) (Ev.pos (by omega) (Ev.pos (by omega) ?_))
    rw [wrapS (n := n) (by omega) (by omega), wrapI (m + i + 1) (by omega), Int.toNat_natCast]
    have := ih (i + 1) _ (by omega) h1 h2
    rwa [show m + ((i + 1 : Nat) : Int) = m + i + 1 by omega] at this
theorem markIntS_ev (xs : List Int) (m : Int) (h0 : 0 ≤ m) (hn : m + xs.length ≤ 4611686018427387904) : Ev (fun k => laws_markIntS.f k xs m) (m + xs.length, marked xs.length m) := by
  have := markIntS_loop xs.length m h0 hn xs.length 0 xs (by omega) rfl rfl
  unfold laws_markIntS.f
  simpa using this
theorem heldIntS_loop (n : Nat) (m : Int) (h0 : 0 ≤ m) (hn : m + n ≤ 4611686018427387904) : ∀ (d i : Nat), i + d = n → Ev (fun k => laws_heldIntS.l0 k (marked n m) (m + i) (i : Int)) (m + n) := by
  intro d
  induction d with
  | zero =>
    intro i hi
    obtain rfl : i = n := by omega
    exact Ev.step (fun k => laws_heldIntS.l0.eq_2 _ _ _ _) (Ev.neg (by rw [marked_length]; omega) (Ev.now _))
  | succ d ih =>
    intro i hi
    have hlt : i < n := by omega
    refine Ev.step (fun k => laws_heldIntS.l0.eq_2 _ _ _ _) (Ev.pos (by rw [marked_length]; omega) (Ev.pos (by omega) ?_))
    rw [rdN, marked_at n m i hlt, wrapS (n := n) (by omega) (by omega), wrapI (m + i + 1) (by omega)]
    refine Ev.pos rfl ?_
    have := ih (i + 1) (by omega)
    rwa [show m + ((i + 1 : Nat) : Int) = m + i + 1 by omega] at this
theorem heldIntS_ev (n : Nat) (m : Int) (h0 : 0 ≤ m) (hn : m + n ≤ 4611686018427387904) : Ev (fun k => laws_heldIntS.f k (marked n m) m) (m + n) := by
  have := heldIntS_loop n m h0 hn n 0 (by omega)
  unfold laws_heldIntS.f
  simpa using this
def isRank (l : List Int) (n : Int) : Bool := decide (1 ≤ n ∧ n ≤ 5 ∧ (l.length : Int) = n ∧ l.Nodup ∧ ∀ x ∈ l, 0 ≤ x ∧ x < n)
theorem l12Has_loop (xs : List Int) (v : Int) (hn : xs.length ≤ 4611686018427387904) : ∀ (d i : Nat), i + d = xs.length → Ev (fun k => spec_l12Has.l0 k xs v (i : Int)) (decide (v ∈ xs.drop i)) := by
  intro d
  induction d with
  | zero =>
    intro i hi
    refine Ev.step (fun k => spec_l12Has.l0.eq_2 _ _ _ _) (Ev.neg (by omega) (Ev.is ?_))
    rw [List.drop_of_length_le (by omega)]
    simp
  | succ d ih =>
    intro i hi
    have hlt : i < xs.length := by omega
    refine Ev.step (fun k => spec_l12Has.l0.eq_2 _ _ _ _) (Ev.pos (by omega) (Ev.pos (by omega) ?_))
    rw [wrapS (Nat.le_of_lt hlt) hn, rdN, drop_cons xs 0 i hlt]
    by_cases c : xs.getD i 0 = v
    · exact Ev.pos c (Ev.is (decide_eq_true (by rw [c]; exact List.mem_cons_self ..)).symm)
    · refine Ev.neg c (Ev.to (ih (i + 1) (by omega)) (decide_eq_decide.2 ⟨fun h => List.mem_cons_of_mem _ h, fun h => ?_⟩))
      rcases List.mem_cons.1 h with h | h
      · exact absurd h.symm c
      · exact h
theorem l12Has_ev (xs : List Int) (v : Int) (hn : xs.length ≤ 4611686018427387904) : Ev (fun k => spec_l12Has.f k xs v) (decide (v ∈ xs)) := by
  unfold spec_l12Has.f
  simpa using l12Has_loop xs v hn xs.length 0 (by omega)
theorem l1In_ev (a b c : Int) : Ev (fun _ => spec_l1In.f a b c) (decide (b ≤ a ∧ a ≤ c)) := by
  refine Ev.flat ?_
  unfold spec_l1In.f
  by_cases h : b ≤ a <;> simp [h]
theorem within_ev (a b c : Int) : Ev (fun _ => impl_within.f a b c) (decide (b ≤ a ∧ a ≤ c)) := by
  refine Ev.flat ?_
  unfold impl_within.f
  by_cases h : b ≤ a <;> simp [h]
theorem specIsRanking_loop (l : List Int) (n : Int) (hn : l.length ≤ 4611686018427387904) : ∀ (d i : Nat), i + d = l.length → (l.take i).Nodup → (∀ x ∈ l.take i, 0 ≤ x ∧ x < n) → Ev (fun k => spec_IsRanking.l0 k l n (i : Int)) (isRank l n) := by
  intro d
  induction d with
  | zero =>
    intro i hi hd hx
    rw [List.take_of_length_le (by omega)] at hd hx
    refine Ev.step (fun k => spec_IsRanking.l0.eq_2 _ _ _ _) (Ev.neg (by omega) (Ev.bind (l1In_ev _ _ _) ?_))
    by_cases h : 1 ≤ n ∧ n ≤ 5
    · refine Ev.pos (by simpa using h) (Ev.is ?_)
      unfold isRank
      by_cases e : (l.length : Int) = n
      · rw [decide_eq_true ⟨h.1, h.2, e, hd, hx⟩]; simpa using e
      · rw [decide_eq_false (fun z => e z.2.2.1)]; simpa using e
    · refine Ev.neg (by simpa using h) (Ev.is ?_)
      unfold isRank
      rw [decide_eq_false (fun z => h ⟨z.1, z.2.1⟩)]
  | succ d ih =>
    intro i hi hd hx
    have hlt : i < l.length := by omega
    refine Ev.step (fun k => spec_IsRanking.l0.eq_2 _ _ _ _) (Ev.pos (by omega) (Ev.pos (by omega) ?_))
    rw [wrapS (Nat.le_of_lt hlt) hn, rdN, Int.toNat_natCast]
    have no : ∀ {p : Prop}, ¬ p → (isRank l n = true → p) → Ev (fun _ => some false) (isRank l n) := fun hp k => Ev.is (by
      cases e : isRank l n with
      | false => rfl
      | true => exact absurd (k e) hp)
    by_cases c : l.getD i 0 < 0
    · exact Ev.pos c (no (p := 0 ≤ l.getD i 0) (by omega) (fun h => ((of_decide_eq_true h).2.2.2.2 _ (mem_getD l 0 i hlt)).1))
    · refine Ev.neg c ?_
      by_cases c' : l.getD i 0 ≥ n
      · exact Ev.pos c' (no (p := l.getD i 0 < n) (by omega) (fun h => ((of_decide_eq_true h).2.2.2.2 _ (mem_getD l 0 i hlt)).2))
      · refine Ev.neg c' (Ev.pos (by omega) (Ev.bind (l12Has_ev _ _ (by rw [List.length_take]; omega)) ?_))
        have hnd : l.Nodup → ¬ l.getD i 0 ∈ l.take i := fun h hm => by
          have := h.sublist (List.take_sublist (i + 1) l)
          rw [take_succ' l 0 i hlt, List.nodup_append] at this
          exact this.2.2 _ hm _ (List.mem_singleton.2 rfl) rfl
        by_cases c2 : l.getD i 0 ∈ l.take i
        · exact Ev.pos (decide_eq_true c2) (no (p := ¬ l.getD i 0 ∈ l.take i) (fun h => h c2) (fun h => hnd (of_decide_eq_true h).2.2.2.1))
        · refine Ev.neg (by simpa using c2) (ih (i + 1) (by omega) ?_ ?_)
          · rw [take_succ' l 0 i hlt, List.nodup_append]
            exact ⟨hd, by simp, fun a ha b hb e => c2 (by rw [List.mem_singleton.1 hb] at e; rw [← e]; exact ha)⟩
          · rw [take_succ' l 0 i hlt]
            intro x hm
            rcases List.mem_append.1 hm with hm | hm
            · exact hx x hm
            · rw [List.mem_singleton.1 hm]; exact ⟨by omega, by omega⟩
theorem specIsRanking_ev (l : List Int) (n : Int) (hn : l.length ≤ 4611686018427387904) : Ev (fun k => spec_IsRanking.f k l n) (isRank l n) :=
  specIsRanking_loop l n hn l.length 0 (by omega) (by simp) (fun _ h => by cases h)
theorem isStrict_ev (m : List Int) (n : Int) (hm : m.length ≤ 4611686018427387904) (hn : 1 ≤ n ∧ n ≤ 4611686018427387904) (b : Bool) (hb : b = true ↔ (∀ j, 0 ≤ j → j < m.length → (0 ≤ m.getD j 0 ∧ m.getD j 0 < n) ∧ (0 < j → m.getD (j - 1) 0 < m.getD j 0))) : Ev (fun k => impl_isStrict.f k m n) b := by
  unfold impl_isStrict.f
  refine all_loop (fun k i => impl_isStrict.l0 k m n m (m.length : Int) i) m.length (fun j => (0 ≤ m.getD j 0 ∧ m.getD j 0 < n) ∧ (0 < j → m.getD (j - 1) 0 < m.getD j 0)) true (fun i hi r h h' => ?_) (Ev.step (fun k => impl_isStrict.l0.eq_2 _ _ _ _ _ _) (Ev.neg (by omega) (Ev.now _))) m.length 0 (by omega) b (hb.trans ⟨fun h => ⟨h, rfl⟩, fun h => h.1⟩)
  refine Ev.step (fun k => impl_isStrict.l0.eq_2 _ _ _ _ _ _) (Ev.pos (by omega) (Ev.pos (by omega) (Ev.pos (by omega) (Ev.bind (within_ev _ _ _) ?_))))
  rw [wrapS (Nat.le_of_lt hi) hm, wrapI (n - 1) (by omega), rdN]
  by_cases c : 0 ≤ m.getD i 0 ∧ m.getD i 0 < n
  · refine Ev.pos (decide_eq_true ⟨c.1, by omega⟩) ?_
    by_cases c0 : 0 < i
    · have e : wrap64 ((i : Int) - 1) = ((i - 1 : Nat) : Int) := by rw [wrapI _ (by omega)]; omega
      refine Ev.pos (by omega) ?_
      rw [e]
      refine Ev.pos (by omega) (Ev.pos (by omega) ?_)
      rw [rdN]
      by_cases c1 : m.getD i 0 ≤ m.getD (i - 1) 0
      · exact Ev.pos c1 (Ev.is (h' (fun z => by have := z.2 c0; omega)).symm)
      · exact Ev.neg c1 (h ⟨c, fun _ => by omega⟩)
    · exact Ev.neg (by omega) (h ⟨c, fun z => absurd z c0⟩)
  · exact Ev.neg (by simp only [decide_eq_true_eq]; omega) (Ev.is (h' (fun z => c z.1)).symm)
theorem sorted_strict (l : List Int) : (∀ j, 0 < j → j < l.length → (l.mergeSort (fun x y => decide (x ≤ y))).getD (j - 1) 0 < (l.mergeSort (fun x y => decide (x ≤ y))).getD j 0) ↔ l.Nodup := by
  have hp := List.mergeSort_perm l (fun x y => decide (x ≤ y))
  have hs := List.pairwise_mergeSort (le := fun x y : Int => decide (x ≤ y)) (fun a b c h1 h2 => by simp only [decide_eq_true_eq] at *; omega) (fun a b => by simp only [Bool.or_eq_true, decide_eq_true_eq]; omega) l
  have hlen := hp.length_eq
  rw [← hp.nodup_iff]
  generalize hm : l.mergeSort (fun x y => decide (x ≤ y)) = m at *
  rw [List.pairwise_iff_getElem] at hs
  simp only [decide_eq_true_eq] at hs
  unfold List.Nodup
  rw [List.pairwise_iff_getElem]
  constructor
  · intro h i j hi hj hij e
    have h1 := h j (by omega) (by omega)
    rw [getD_at _ _ _ hj, getD_at _ _ _ (show j - 1 < m.length by omega)] at h1
    rcases Nat.lt_or_ge i (j - 1) with h2 | h2
    · have := hs i (j - 1) hi (by omega) h2; omega
    · obtain rfl : i = j - 1 := by omega
      omega
  · intro h j h0 hj
    have hj' : j < m.length := by omega
    have h1 := hs (j - 1) j (by omega) hj' (by omega)
    have h2 := h (j - 1) j (by omega) hj' (by omega)
    rw [getD_at _ _ _ hj', getD_at _ _ _ (show j - 1 < m.length by omega)]
    omega
theorem implIsRanking_ev (l : List Int) (n : Int) : Ev (fun k => impl_IsRanking.f k l n) (isRank l n) := by
  unfold impl_IsRanking.f
  refine Ev.bind (within_ev _ _ _) ?_
  by_cases h : 1 ≤ n ∧ n ≤ 5
  · refine Ev.pos (by simpa using h) ?_
    by_cases e : (l.length : Int) = n
    · refine Ev.pos e (isStrict_ev _ n (by rw [List.length_mergeSort]; omega) (by omega) _ ?_)
      unfold isRank
      rw [decide_eq_true_eq, List.length_mergeSort]
      constructor
      · rintro ⟨_, _, _, hd, hx⟩ j _ hj
        exact ⟨hx _ (List.mem_mergeSort.1 (mem_getD _ 0 j (by rw [List.length_mergeSort]; exact hj))), fun h0 => (sorted_strict l).2 hd j h0 hj⟩
      · intro H
        refine ⟨h.1, h.2, e, (sorted_strict l).1 (fun j h0 hj => (H j (by omega) hj).2 h0), fun x hx => ?_⟩
        obtain ⟨j, hj, rfl⟩ := List.getElem_of_mem (List.mem_mergeSort (le := fun x y : Int => decide (x ≤ y)).2 hx)
        have := (H j (by omega) (by rw [List.length_mergeSort] at hj; exact hj)).1
        rwa [getD_at _ _ _ hj] at this
    · refine Ev.neg e (Ev.is ?_)
      unfold isRank
      rw [decide_eq_false (fun z => e z.2.2.1)]
  · refine Ev.neg (by simpa using h) (Ev.is ?_)
    unfold isRank
    rw [decide_eq_false (fun z => h ⟨z.1, z.2.1⟩)]
def wLoop (r : List Int) : Nat → List Int → Int → List Int
  | 0, out, _ => out
  | d + 1, out, w => wLoop r d (out.set (r.getD d 0).toNat w) (wrap64 (w * 20))
theorem wLoop_length (r : List Int) : ∀ d out w, (wLoop r d out w).length = out.length := by
  intro d
  induction d with
  | zero => intro out w; rfl
  | succ d ih => intro out w; rw [wLoop, ih, List.length_set]
def weightsOf (r : List Int) : List Int × Bool := if isRank r (r.length : Int) = true then (wLoop r r.length (List.replicate r.length 0) 1, true) else ([], false)
theorem specWOR_loop (r : List Int) (hn : r.length ≤ 4611686018427387904) (hx : ∀ x ∈ r, 0 ≤ x ∧ x < (r.length : Int)) : ∀ (d : Nat) (out : List Int) (w : Int), d ≤ r.length → out.length = r.length →
    Ev (fun k => spec_WeightsOfRanking.l0 k r out w ((d : Int) - 1)) (wLoop r d out w, true) := by
  intro d
  induction d with
  | zero =>
    intro out w hd hl
    exact Ev.step (fun k => spec_WeightsOfRanking.l0.eq_2 _ _ _ _ _) (Ev.neg (by omega) (Ev.now _))
  | succ d ih =>
    intro out w hd hl
    have hlt : d < r.length := by omega
    have e : ((d + 1 : Nat) : Int) - 1 = (d : Int) := by omega
    have hb := hx _ (mem_getD r 0 d hlt)
    rw [e]
    refine Ev.step (fun k => spec_WeightsOfRanking.l0.eq_2 _ _ _ _ _) (Ev.pos (by omega) (Ev.pos (by omega) (Ev.pos (by omega) ?_)))
    rw [rdN, wrapI ((d : Int) - 1) (by omega)]
    exact Ev.pos (by omega) (Ev.pos (by omega) (ih _ _ (by omega) (by rw [List.length_set]; exact hl)))
theorem implWOR_loop (r : List Int) (hn : r.length ≤ 4611686018427387904) (hx : ∀ x ∈ r, 0 ≤ x ∧ x < (r.length : Int)) : ∀ (d : Nat) (out : List Int) (w : Int), d ≤ r.length → out.length = r.length →
    Ev (fun k => impl_WeightsOfRanking.l0 k r out w ((d : Int) - 1)) (wLoop r d out w, true) := by
  intro d
  induction d with
  | zero =>
    intro out w hd hl
    exact Ev.step (fun k => impl_WeightsOfRanking.l0.eq_2 _ _ _ _ _) (Ev.neg (by omega) (Ev.now _))
  | succ d ih =>
    intro out w hd hl
    have hlt : d < r.length := by omega
    have e : ((d + 1 : Nat) : Int) - 1 = (d : Int) := by omega
    have hb := hx _ (mem_getD r 0 d hlt)
    rw [e]
    refine Ev.step (fun k => impl_WeightsOfRanking.l0.eq_2 _ _ _ _ _) (Ev.pos (by omega) (Ev.pos (by omega) (Ev.pos (by omega) ?_)))
    rw [rdN, wrapI ((d : Int) - 1) (by omega)]
    exact Ev.pos (by omega) (Ev.pos (by omega) (ih _ _ (by omega) (by rw [List.length_set]; exact hl)))
theorem specWeightsOfRanking_ev (r : List Int) (hn : r.length ≤ 4611686018427387904) : Ev (fun k => spec_WeightsOfRanking.f k r) (weightsOf r) := by
  unfold spec_WeightsOfRanking.f weightsOf
  refine Ev.bind (specIsRanking_ev r _ hn) ?_
  by_cases h : isRank r (r.length : Int) = true
  · have H := of_decide_eq_true h
    rw [if_pos h]
    refine Ev.pos h (Ev.pos (by omega) (Ev.pos (by omega) ?_))
    rw [Int.toNat_natCast, wrapI _ (by omega)]
    exact specWOR_loop r hn H.2.2.2.2 r.length _ _ (Nat.le_refl _) (by simp)
  · rw [if_neg h]
    exact Ev.neg h (Ev.now _)
theorem implWeightsOfRanking_ev (r : List Int) (hn : r.length ≤ 4611686018427387904) : Ev (fun k => impl_WeightsOfRanking.f k r) (weightsOf r) := by
  unfold impl_WeightsOfRanking.f weightsOf
  refine Ev.bind (implIsRanking_ev r _) ?_
  by_cases h : isRank r (r.length : Int) = true
  · have H := of_decide_eq_true h
    rw [if_pos h]
    refine Ev.pos h (Ev.pos (by omega) (Ev.pos (by omega) ?_))
    rw [Int.toNat_natCast, wrapI _ (by omega)]
    exact implWOR_loop r hn H.2.2.2.2 r.length _ _ (Nat.le_refl _) (by simp)
  · rw [if_neg h]
    exact Ev.neg h (Ev.now _)
theorem weightsOf_length (r : List Int) : (weightsOf r).1.length ≤ r.length := by
  unfold weightsOf
  split
  · rw [wLoop_length]; simp
  · simp
theorem FnExactWeightsOfRanking (l0 : List (Int)) (h0 : (l0.length ≤ maxLen ∧ ∀ y1 ∈ l0, (Lit.int .i64 y1).wf = true)) : ∃ k, laws_FnExactWeightsOfRanking.f k l0 = some true := by
  refine Ev.rounds (g := fun k => laws_FnExactWeightsOfRanking.f k l0) ?_
  unfold laws_FnExactWeightsOfRanking.f
  by_cases c : (l0.length : Int) > 1048576
  · exact Ev.pos c (Ev.now _)
  refine Ev.neg c ?_
  have hn : l0.length ≤ 1048576 := by omega
  have hg := weightsOf_length l0
  have t := toIntS_ev l0 (by omega)
  refine Ev.bind t (Ev.bind (specWeightsOfRanking_ev l0 (by omega)) (Ev.bind t (Ev.bind (implWeightsOfRanking_ev l0 (by omega)) (Ev.bind (eqIntS_ev _ _ (by omega)) (Ev.pos (by simp) ?_)))))
  refine Ev.step (fun k => laws_FnExactWeightsOfRanking.j0.eq_2 _ _ _ _ _ _ _ _) (Ev.neg (by simp) (Ev.bind t (Ev.bind (eqIntS_ev _ _ (by omega)) (Ev.pos (by simp) ?_))))
  refine Ev.bind (markIntS_ev l0 1 (by omega) (by omega)) (Ev.neg (by simp only []; omega) (Ev.bind (eqIntS_ev _ _ (by omega)) (Ev.pos (by simp) ?_)))
  refine Ev.step (fun k => laws_FnExactWeightsOfRanking.j1.eq_2 _ _ _ _ _ _) (Ev.neg (by simp) ?_)
  refine Ev.bind (markIntS_ev _ 1 (by omega) (by omega)) (Ev.bind (heldIntS_ev _ 1 (by omega) (by omega)) (Ev.neg (by omega) (Ev.pos rfl ?_)))
  refine Ev.bind t (Ev.bind (implWeightsOfRanking_ev l0 (by omega)) (Ev.bind (eqIntS_ev _ _ (by omega)) (Ev.pos (by simp) ?_)))
  refine Ev.step (fun k => laws_FnExactWeightsOfRanking.j2.eq_2 _ _ _ _) (Ev.neg (by simp) ?_)
  exact Ev.bind (heldIntS_ev _ 1 (by omega) (by omega)) (Ev.neg (by omega) (Ev.pos rfl (Ev.now _)))
end Go.Proofs.Ytcebnmagigadpaa.Pure
