/- The program's EqualLearners and the reference's answer alike, and the arguments stay. Conditions: what a slice may hold at most. -/
import Derived.Test.YtcebnmagigadpaaPFnExactEqualLearnersx0
import Derived.Test.YtcebnmagigadpaaPFnExactEqualLearnersx1
import Derived.Test.YtcebnmagigadpaaPFnExactEqualLearnersx2
import Derived.Test.YtcebnmagigadpaaPFnExactEqualLearnersx3
import Derived.Test.YtcebnmagigadpaaPFnExactEqualLearnersx4
import Derived.Test.YtcebnmagigadpaaKit
import Derived.WideShapes
import Derived.Laws.Strings
set_option linter.unusedVariables false
set_option linter.unusedSimpArgs false
namespace Go.Proofs.Ytcebnmagigadpaa.Pure
open Go.RowKit Go.WideShapes Go.Proofs.Ytcebnmagigadpaa.PFnExactEqualLearners Go.Proofs.Ytcebnmagigadpaa.Kit Go.Proofs.YtcebnmagigadpaaW.PrintWords Go.Proofs.YtcebnmagigadpaaW.PrintLast
theorem szIntS_ev (l : List Int) (hl : l.length ≤ maxLen) (a : Int) (h0 : 0 ≤ a) (h1 : a ≤ 1048576) : ∃ r, Ev (fun _ => laws_szIntS.f l a) r ∧ -1 ≤ r ∧ r ≤ a ∧ (0 ≤ r → l.length ≤ 1048576) := by
  obtain ⟨r, hr, h⟩ := sz_leaf a l.length hl h0 h1
  exact ⟨r, Ev.flat hr, h⟩
theorem szIntSS_ev (xs : List (List Int)) (hn : xs.length ≤ maxLen) (hy : ∀ y ∈ xs, y.length ≤ maxLen) (a : Int) (h0 : 0 ≤ a) (h1 : a ≤ 1048576) :
    ∃ r, Ev (fun k => laws_szIntSS.f k xs a) r ∧ -1 ≤ r ∧ r ≤ a ∧ (0 ≤ r → xs.length ≤ 1048576 ∧ ∀ y ∈ xs, y.length ≤ 1048576) :=
  sz_slice (fun k a => laws_szIntSS.f k xs a) (fun k left i => laws_szIntSS.l0 k xs left i) xs (fun y => y.length ≤ 1048576) hn (fun _ _ => rfl)
    (fun hl left h0 h1 => sz_loop _ (fun _ y left => laws_szIntS.f y left) xs [] _ hl (fun k left i => laws_szIntSS.l0.eq_2 _ _ _ _) (fun y hm left h0 h1 => szIntS_ev y (hy y hm) left h0 h1) xs.length 0 left (by omega) h0 h1) a h0 h1
theorem szLearner_ev (n : Int) (xs : List (List Int)) (e : Int) (hn : xs.length ≤ maxLen) (hy : ∀ y ∈ xs, y.length ≤ maxLen) (a : Int) (h0 : 0 ≤ a) (h1 : a ≤ 1048576) :
    ∃ r, Ev (fun k => laws_szLearner.f k n xs e a) r ∧ -1 ≤ r ∧ r ≤ a ∧ (0 ≤ r → xs.length ≤ 1048576 ∧ ∀ y ∈ xs, y.length ≤ 1048576) := by
  obtain ⟨r, hr, h⟩ := szIntSS_ev xs hn hy a h0 h1
  refine ⟨r, ?_, h⟩
  unfold laws_szLearner.f
  refine Ev.bind hr ?_
  by_cases c : r < 0
  · exact Ev.pos c (Ev.is (by omega))
  · exact Ev.neg c (Ev.now _)
theorem toIntS_loop (xs : List Int) (hn : xs.length ≤ 4611686018427387904) : ∀ (d i : Nat) (ys : List Int), i + d = xs.length → ys.length = xs.length → ys.take i = xs.take i →
    Ev (fun k => laws_toIntS.l0 k xs ys (i : Int)) xs := by
  intro d
  induction d with
  | zero =>
    intro i ys hi hl ht
    refine Ev.step (fun k => laws_toIntS.l0.eq_2 _ _ _ _) ?_
    refine Ev.neg (by omega) (Ev.is ?_)
    have e : i = xs.length := by omega
    rw [e, List.take_length, ← hl, List.take_length] at ht
    exact ht
  | succ d ih =>
    intro i ys hi hl ht
    have hlt : i < xs.length := by omega
    obtain ⟨h1, h2⟩ := set_fill xs ys 0 i hlt hl ht
    refine Ev.step (fun k => laws_toIntS.l0.eq_2 _ _ _ _) ?_
    refine Ev.pos (by omega) (Ev.pos (by omega) (Ev.pos (by omega) ?_))
    rw [wrapS (Nat.le_of_lt hlt) hn, rdN, Int.toNat_natCast]
    exact ih (i + 1) _ (by omega) h1 h2
theorem toIntS_ev (xs : List Int) (hn : xs.length ≤ 35184372088832) : Ev (fun k => laws_toIntS.f k xs) xs := by
  unfold laws_toIntS.f
  refine Ev.pos (by omega) (Ev.pos (by omega) ?_)
  rw [Int.toNat_natCast]
  exact toIntS_loop xs (by omega) xs.length 0 _ (by omega) (by rw [List.length_replicate]) rfl
theorem toIntSS_ev (xs : List (List Int)) (hn : xs.length ≤ 1048576) (hy : ∀ y ∈ xs, y.length ≤ 1048576) : Ev (fun k => laws_toIntSS.f k xs) xs := by
  unfold laws_toIntSS.f
  refine Ev.pos (by omega) (Ev.pos (by omega) ?_)
  have h := to_loop (fun k ys i => laws_toIntSS.l0 k xs ys i) (fun k y => laws_toIntS.f k y) (fun t => t) (fun y => y) xs [] (by omega) (fun k ys i => laws_toIntSS.l0.eq_2 _ _ _ _)
    (fun y hm => toIntS_ev y (by have := hy y hm; omega)) xs.length 0 (List.replicate xs.length []) (by omega) (by rw [List.length_replicate]) rfl
  rw [List.map_id'] at h
  rw [Int.toNat_natCast]
  exact h
theorem toLearner_ev (n : Int) (xs : List (List Int)) (e : Int) (hn : xs.length ≤ 1048576) (hy : ∀ y ∈ xs, y.length ≤ 1048576) : Ev (fun k => laws_toLearner.f k n xs e) (n, xs, e) :=
  Ev.bind (toIntSS_ev xs hn hy) (Ev.now _)
theorem eqIntS_loop (xs ys : List Int) (hl : xs.length = ys.length) (hn : xs.length ≤ 4611686018427387904) : ∀ (d i : Nat), i + d = xs.length →
    Ev (fun k => laws_eqIntS.l0 k xs ys (i : Int)) (decide (xs.drop i = ys.drop i)) := by
  intro d
  induction d with
  | zero =>
    intro i hi
    refine Ev.step (fun k => laws_eqIntS.l0.eq_2 _ _ _ _) ?_
    refine Ev.neg (by omega) (Ev.is ?_)
    rw [List.drop_of_length_le (by omega), List.drop_of_length_le (by omega)]
    rfl
  | succ d ih =>
    intro i hi
    have hlt : i < xs.length := by omega
    refine Ev.step (fun k => laws_eqIntS.l0.eq_2 _ _ _ _) ?_
    refine Ev.pos (by omega) (Ev.pos (by omega) (Ev.pos (by omega) ?_))
    rw [wrapS (Nat.le_of_lt hlt) hn, rdN, rdN, drop_cons xs 0 i hlt, drop_cons ys 0 i (by omega)]
    by_cases e : xs.getD i 0 = ys.getD i 0
    · refine Ev.pos e (Ev.to (ih (i + 1) (by omega)) ?_)
      rw [e]
      exact decide_eq_decide.2 ⟨fun h => by rw [h], fun h => (List.cons.inj h).2⟩
    · exact Ev.neg e (Ev.is (decide_eq_false (fun h => e (List.cons.inj h).1)).symm)
theorem eqIntS_ev (xs ys : List Int) (hn : xs.length ≤ 4611686018427387904) : Ev (fun k => laws_eqIntS.f k xs ys) (decide (xs = ys)) := by
  unfold laws_eqIntS.f
  by_cases e : xs.length = ys.length
  · exact Ev.pos (by omega) (eqIntS_loop xs ys e hn xs.length 0 (by omega))
  · refine Ev.neg (by omega) (Ev.is ?_)
    have : ¬ xs = ys := fun h => e (by rw [h])
    simp [this]
theorem eqIntSS_ev (xs ys : List (List Int)) (hn : xs.length ≤ 4611686018427387904) (hy : ∀ y ∈ xs, y.length ≤ 4611686018427387904) : Ev (fun k => laws_eqIntSS.f k xs ys) (decide (xs = ys)) :=
  eq_slice _ (fun k i => laws_eqIntSS.l0 k xs ys i) xs ys (fun _ => rfl)
    (fun e => eq_loop _ (fun k a b => laws_eqIntS.f k a b) xs ys [] e hn (fun k i => laws_eqIntSS.l0.eq_2 _ _ _ _) (fun a ha b _ => eqIntS_ev a b (hy a ha)) xs.length 0 (by omega))
theorem eqLearner_ev (n : Int) (xs : List (List Int)) (e : Int) (n' : Int) (ys : List (List Int)) (e' : Int) (hn : xs.length ≤ 4611686018427387904) (hy : ∀ y ∈ xs, y.length ≤ 4611686018427387904) :
    Ev (fun k => laws_eqLearner.f k n xs e n' ys e') (decide (n = n' ∧ xs = ys ∧ e = e')) := by
  unfold laws_eqLearner.f
  by_cases c : n = n'
  · refine Ev.pos c (Ev.bind (eqIntSS_ev xs ys hn hy) ?_)
    by_cases d : xs = ys
    · refine Ev.pos (by simpa using d) ?_
      by_cases g : e = e'
      · exact Ev.pos g (Ev.is (by simp [c, d, g]))
      · exact Ev.neg g (Ev.is (by simp [g]))
    · exact Ev.neg (by simpa using d) (Ev.is (by simp [d]))
  · exact Ev.neg c (Ev.is (by simp [c]))
theorem eqLearner_refl (n : Int) (xs : List (List Int)) (e : Int) (hn : xs.length ≤ 1048576) (hy : ∀ y ∈ xs, y.length ≤ 1048576) : Ev (fun k => laws_eqLearner.f k n xs e n xs e) true :=
  Ev.to (eqLearner_ev n xs e n xs e (by omega) (fun y h => by have := hy y h; omega)) (by simp)
theorem l5Same_ev (xs ys : List Int) (hn : xs.length ≤ 4611686018427387904) : Ev (fun k => spec_l5Same.f k xs ys) (decide (xs = ys)) := by
  unfold spec_l5Same.f
  by_cases e : xs.length = ys.length
  · refine Ev.pos (by omega) (all_loop (fun k i => spec_l5Same.l0 k xs ys i) xs.length (fun j => xs.getD j 0 = ys.getD j 0) true (fun i hi r h h' => ?_) (Ev.step (fun k => spec_l5Same.l0.eq_2 _ _ _ _) (Ev.neg (by omega) (Ev.now _))) xs.length 0 (by omega) _ ?_)
    · refine Ev.step (fun k => spec_l5Same.l0.eq_2 _ _ _ _) (Ev.pos (by omega) (Ev.pos (by omega) (Ev.pos (by omega) ?_)))
      rw [wrapS (Nat.le_of_lt hi) hn, rdN, rdN]
      by_cases c : xs.getD i 0 = ys.getD i 0
      · exact Ev.pos c (h c)
      · exact Ev.neg c (Ev.is (h' c).symm)
    · simpa using (list_eq_iff xs ys 0 e).symm
  · refine Ev.neg (by omega) (Ev.is (decide_eq_false (fun h => e (by rw [h]))).symm)
theorem slicesEqual_ev (xs ys : List Int) (hn : xs.length ≤ 4611686018427387904) : Ev (fun k => slices_Equal_int_int.f k xs ys) (decide (xs = ys)) := by
  unfold slices_Equal_int_int.f
  by_cases e : xs.length = ys.length
  · refine Ev.pos (by omega) (all_loop (fun k i => slices_Equal_int_int.l0 k xs ys (xs.length : Int) i) xs.length (fun j => xs.getD j 0 = ys.getD j 0) true (fun i hi r h h' => ?_) (Ev.step (fun k => slices_Equal_int_int.l0.eq_2 _ _ _ _ _) (Ev.neg (by omega) (Ev.now _))) xs.length 0 (by omega) _ ?_)
    · refine Ev.step (fun k => slices_Equal_int_int.l0.eq_2 _ _ _ _ _) (Ev.pos (by omega) (Ev.pos (by omega) (Ev.pos (by omega) (Ev.pos (by omega) ?_))))
      rw [wrapS (Nat.le_of_lt hi) hn, rdN, rdN]
      by_cases c : xs.getD i 0 = ys.getD i 0
      · exact Ev.pos c (h c)
      · exact Ev.neg c (Ev.is (h' c).symm)
    · simpa using (list_eq_iff xs ys 0 e).symm
  · refine Ev.neg (by omega) (Ev.is (decide_eq_false (fun h => e (by rw [h]))).symm)
theorem sameLists_ev (xs ys : List (List Int)) (hn : xs.length ≤ 4611686018427387904) (hy : ∀ x ∈ xs, x.length ≤ 4611686018427387904) : Ev (fun k => impl_sameLists.f k xs ys) (decide (xs = ys)) := by
  unfold impl_sameLists.f
  refine Ev.bind (a := decide (xs = ys)) ?_ (Ev.now _)
  unfold v_slices_EqualFunc__sameLists_1.f
  by_cases e : xs.length = ys.length
  · refine Ev.pos (by omega) (all_loop (fun k i => v_slices_EqualFunc__sameLists_1.l0 k ys xs (xs.length : Int) i) xs.length (fun j => xs.getD j [] = ys.getD j []) true (fun i hi r h h' => ?_) (Ev.step (fun k => v_slices_EqualFunc__sameLists_1.l0.eq_2 _ _ _ _ _) (Ev.neg (by omega) (Ev.now _))) xs.length 0 (by omega) _ ?_)
    · refine Ev.step (fun k => v_slices_EqualFunc__sameLists_1.l0.eq_2 _ _ _ _ _) (Ev.pos (by omega) (Ev.pos (by omega) (Ev.pos (by omega) (Ev.pos (by omega) ?_))))
      rw [wrapS (Nat.le_of_lt hi) hn, show rd_L1 xs (i : Int) = xs.getD i [] from rfl, show rd_L1 ys (i : Int) = ys.getD i [] from rfl]
      unfold impl_sameLists_1.f
      refine Ev.bind (Ev.bind (slicesEqual_ev _ _ (hy _ (mem_getD xs [] i hi))) (Ev.now _)) ?_
      by_cases c : xs.getD i [] = ys.getD i []
      · exact Ev.pos (decide_eq_true c) (h c)
      · exact Ev.neg (by simpa using c) (Ev.is (h' c).symm)
    · simpa using (list_eq_iff xs ys [] e).symm
  · refine Ev.neg (by omega) (Ev.is (decide_eq_false (fun h => e (by rw [h]))).symm)
theorem specEqualLearners_j0 (n : Int) (xs : List (List Int)) (e : Int) (n' : Int) (ys : List (List Int)) (e' : Int) (hn : xs.length ≤ 4611686018427387904) (hy : ∀ x ∈ xs, x.length ≤ 4611686018427387904) (hl : xs.length = ys.length) :
    Ev (fun k => spec_EqualLearners.l0 k 0 n xs e n' ys e') (decide (xs = ys)) := by
  refine all_loop (fun k i => spec_EqualLearners.l0 k i n xs e n' ys e') xs.length (fun j => xs.getD j [] = ys.getD j []) true (fun i hi r h h' => ?_) (Ev.step (fun k => spec_EqualLearners.l0.eq_2 _ _ _ _ _ _ _ _) (Ev.neg (by omega) (Ev.now _))) xs.length 0 (by omega) _ ?_
  · refine Ev.step (fun k => spec_EqualLearners.l0.eq_2 _ _ _ _ _ _ _ _) (Ev.pos (by omega) (Ev.pos (by omega) (Ev.pos (by omega) (Ev.bind (l5Same_ev _ _ (hy _ (mem_getD xs [] i hi))) ?_))))
    rw [wrapS (Nat.le_of_lt hi) hn, show rd_L1 xs (i : Int) = xs.getD i [] from rfl, show rd_L1 ys (i : Int) = ys.getD i [] from rfl]
    by_cases c : xs.getD i [] = ys.getD i []
    · exact Ev.pos (decide_eq_true c) (h c)
    · exact Ev.neg (by simpa using c) (Ev.is (h' c).symm)
  · simpa using (list_eq_iff xs ys [] hl).symm
def eqLearners (n : Int) (xs : List (List Int)) (e : Int) (n' : Int) (ys : List (List Int)) (e' : Int) : Bool := decide (n = n') && decide (e = e') && decide (xs = ys)
theorem specEqualLearners_ev (n : Int) (xs : List (List Int)) (e : Int) (n' : Int) (ys : List (List Int)) (e' : Int) (hn : xs.length ≤ 4611686018427387904) (hy : ∀ x ∈ xs, x.length ≤ 4611686018427387904) :
    Ev (fun k => spec_EqualLearners.f k n xs e n' ys e') (eqLearners n xs e n' ys e') := by
  unfold spec_EqualLearners.f eqLearners
  have hj : ∀ b : Bool, Ev (fun k => spec_EqualLearners.j0 k b n xs e n' ys e') (!b && decide (xs = ys)) ∨ (b = false ∧ xs.length ≠ ys.length) := by
    intro b
    cases b with
    | true => exact .inl (Ev.step (fun k => spec_EqualLearners.j0.eq_2 _ _ _ _ _ _ _ _) (Ev.pos rfl (Ev.now _)))
    | false =>
      by_cases hl : xs.length = ys.length
      · refine .inl (Ev.step (fun k => spec_EqualLearners.j0.eq_2 _ _ _ _ _ _ _ _) (Ev.neg (by simp) ?_))
        rw [Bool.not_false, Bool.true_and]
        exact specEqualLearners_j0 n xs e n' ys e' hn hy hl
      · exact .inr ⟨rfl, hl⟩
  have ht : Ev (fun k => spec_EqualLearners.j0 k true n xs e n' ys e') false := by
    rcases hj true with h | h
    · exact Ev.to h (by simp)
    · cases h.1
  by_cases c : n = n'
  · refine Ev.pos c ?_
    by_cases c' : e = e'
    · refine Ev.pos c' ?_
      by_cases hl : xs.length = ys.length
      · have hb : ((xs.length : Int) != (ys.length : Int)) = false := by rw [hl]; simp
        rw [hb]
        rcases hj false with h | h
        · exact Ev.to h (by simp [c, c'])
        · exact absurd hl h.2
      · have hb : ((xs.length : Int) != (ys.length : Int)) = true := by simp; omega
        rw [hb]
        exact Ev.to ht (by rw [decide_eq_false (fun h : xs = ys => hl (by rw [h]))]; simp)
    · exact Ev.neg c' (Ev.to ht (by simp [c']))
  · exact Ev.neg c (Ev.to ht (by simp [c]))
theorem implEqualLearners_ev (n : Int) (xs : List (List Int)) (e : Int) (n' : Int) (ys : List (List Int)) (e' : Int) (hn : xs.length ≤ 4611686018427387904) (hy : ∀ x ∈ xs, x.length ≤ 4611686018427387904) :
    Ev (fun k => impl_EqualLearners.f k n xs e n' ys e') (eqLearners n xs e n' ys e') := by
  unfold impl_EqualLearners.f eqLearners
  by_cases c : n = n'
  · refine Ev.pos c ?_
    by_cases c' : e = e'
    · exact Ev.pos c' (Ev.bind (sameLists_ev xs ys hn hy) (Ev.is (by simp [c, c'])))
    · exact Ev.neg c' (Ev.is (by simp [c']))
  · exact Ev.neg c (Ev.is (by simp [c]))
theorem FnExactEqualLearners (a0_0 : Int) (l0_1 : List (List (Int))) (a0_2 : Int) (a1_0 : Int) (l1_1 : List (List (Int))) (a1_2 : Int) (h0_0 : (Lit.int .i64 a0_0).wf = true) (h0_1 : (l0_1.length ≤ maxLen ∧ ∀ y1 ∈ l0_1, (y1.length ≤ maxLen ∧ ∀ y2 ∈ y1, (Lit.int .i64 y2).wf = true))) (h0_2 : (Lit.int .i64 a0_2).wf = true) (h1_0 : (Lit.int .i64 a1_0).wf = true) (h1_1 : (l1_1.length ≤ maxLen ∧ ∀ y3 ∈ l1_1, (y3.length ≤ maxLen ∧ ∀ y4 ∈ y3, (Lit.int .i64 y4).wf = true))) (h1_2 : (Lit.int .i64 a1_2).wf = true) : ∃ k, laws_FnExactEqualLearners.f k a0_0 l0_1 a0_2 a1_0 l1_1 a1_2 = some true := by
  refine Ev.rounds (g := fun k => laws_FnExactEqualLearners.f k a0_0 l0_1 a0_2 a1_0 l1_1 a1_2) ?_
  unfold laws_FnExactEqualLearners.f
  obtain ⟨r, hr, hr1, hr2, hg⟩ := szLearner_ev a0_0 l0_1 a0_2 h0_1.1 (fun y h => (h0_1.2 y h).1) 1048576 (by omega) (by omega)
  refine Ev.bind hr ?_
  by_cases c : r < 0
  · exact Ev.pos c (Ev.now _)
  refine Ev.neg c ?_
  obtain ⟨s, hs, hs1, hs2, hg'⟩ := szLearner_ev a1_0 l1_1 a1_2 h1_1.1 (fun y h => (h1_1.2 y h).1) r (by omega) (by omega)
  refine Ev.bind hs ?_
  by_cases c' : s < 0
  · exact Ev.pos c' (Ev.now _)
  refine Ev.neg c' ?_
  obtain ⟨hn, hy⟩ := hg (by omega)
  obtain ⟨hn', hy'⟩ := hg' (by omega)
  have hm : l0_1.length ≤ 4611686018427387904 := by omega
  have hmy : ∀ y ∈ l0_1, y.length ≤ 4611686018427387904 := fun y h => by have := hy y h; omega
  have t0 := toLearner_ev a0_0 l0_1 a0_2 hn hy
  have t1 := toLearner_ev a1_0 l1_1 a1_2 hn' hy'
  refine Ev.bind t0 (Ev.bind t1 (Ev.bind (specEqualLearners_ev a0_0 l0_1 a0_2 a1_0 l1_1 a1_2 hm hmy) (Ev.bind t0 (Ev.bind t1 (Ev.bind (implEqualLearners_ev a0_0 l0_1 a0_2 a1_0 l1_1 a1_2 hm hmy) (Ev.neg (by simp) ?_))))))
  refine Ev.bind t0 (Ev.bind (eqLearner_refl a0_0 l0_1 a0_2 hn hy) (Ev.pos rfl ?_))
  exact Ev.bind t1 (Ev.bind (eqLearner_refl a1_0 l1_1 a1_2 hn' hy') (Ev.pos rfl (Ev.now _)))
end Go.Proofs.Ytcebnmagigadpaa.Pure
