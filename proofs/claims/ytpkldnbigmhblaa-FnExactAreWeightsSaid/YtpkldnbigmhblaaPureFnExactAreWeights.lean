/- The program's AreWeights and the reference's answer alike, and the argument stays. Conditions: what a slice may hold at most. -/
import Derived.Test.YtpkldnbigmhblaaPFnExactAreWeightsx0
import Derived.Test.YtpkldnbigmhblaaPFnExactAreWeightsx1
import Derived.Test.YtpkldnbigmhblaaKit
set_option linter.unusedVariables false
set_option linter.unusedSimpArgs false
namespace Go.Proofs.Ytpkldnbigmhblaa.Pure
open Go.RowKit Go.Proofs.Ytpkldnbigmhblaa.PFnExactAreWeights Go.Proofs.Ytpkldnbigmhblaa.Kit Go.Proofs.YtpkldnbigmhblaaW.PrintWords Go.Proofs.YtpkldnbigmhblaaW.PrintLast
theorem toIntS_loop (xs : List Int) (hn : xs.length ≤ 4611686018427387904) : ∀ (d i : Nat) (ys : List Int), i + d = xs.length → ys.length = xs.length → ys.take i = xs.take i →
    Ev (fun k => laws_toIntS.l0 k xs ys (i : Int)) xs := by
  intro d
  induction d with
  | zero =>
    intro i ys hi hl ht
    refine Ev.step (fun k => laws_toIntS.l0.eq_2 _ _ _ _) ?_
    refine Ev.neg (by omega) (Ev.is ?_)
    have e : i = xs.length := by omega
    rw [e, List.take_length, ← hl, List.take_length] at ht
    exact ht
  | succ d ih =>
    intro i ys hi hl ht
    have hlt : i < xs.length := by omega
    obtain ⟨h1, h2⟩ := set_fill xs ys 0 i hlt hl ht
    refine Ev.step (fun k => laws_toIntS.l0.eq_2 _ _ _ _) ?_
    refine Ev.pos (by omega) (Ev.pos (by omega) (Ev.pos (by omega) ?_))
    rw [wrapS (Nat.le_of_lt hlt) hn, rdN, Int.toNat_natCast]
    exact ih (i + 1) _ (by omega) h1 h2
theorem toIntS_ev (xs : List Int) (hn : xs.length ≤ 35184372088832) : Ev (fun k => laws_toIntS.f k xs) xs := by
  unfold laws_toIntS.f
  refine Ev.pos (by omega) (Ev.pos (by omega) ?_)
  rw [Int.toNat_natCast]
  exact toIntS_loop xs (by omega) xs.length 0 _ (by omega) (by rw [List.length_replicate]) rfl
theorem eqIntS_loop (xs ys : List Int) (hl : xs.length = ys.length) (hn : xs.length ≤ 4611686018427387904) : ∀ (d i : Nat), i + d = xs.length →
    Ev (fun k => laws_eqIntS.l0 k xs ys (i : Int)) (decide (xs.drop i = ys.drop i)) := by
  intro d
  induction d with
  | zero =>
    intro i hi
    refine Ev.step (fun k => laws_eqIntS.l0.eq_2 _ _ _ _) ?_
    refine Ev.neg (by omega) (Ev.is ?_)
    rw [List.drop_of_length_le (by omega), List.drop_of_length_le (by omega)]
    rfl
  | succ d ih =>
    intro i hi
    have hlt : i < xs.length := by omega
    refine Ev.step (fun k => laws_eqIntS.l0.eq_2 _ _ _ _) ?_
    refine Ev.pos (by omega) (Ev.pos (by omega) (Ev.pos (by omega) ?_))
    rw [wrapS (Nat.le_of_lt hlt) hn, rdN, rdN, drop_cons xs 0 i hlt, drop_cons ys 0 i (by omega)]
    by_cases e : xs.getD i 0 = ys.getD i 0
    · refine Ev.pos e (Ev.to (ih (i + 1) (by omega)) ?_)
      rw [e]
      exact decide_eq_decide.2 ⟨fun h => by rw [h], fun h => (List.cons.inj h).2⟩
    · exact Ev.neg e (Ev.is (decide_eq_false (fun h => e (List.cons.inj h).1)).symm)
theorem eqIntS_ev (xs ys : List Int) (hn : xs.length ≤ 4611686018427387904) : Ev (fun k => laws_eqIntS.f k xs ys) (decide (xs = ys)) := by
  unfold laws_eqIntS.f
  by_cases e : xs.length = ys.length
  · exact Ev.pos (by omega) (eqIntS_loop xs ys e hn xs.length 0 (by omega))
  · refine Ev.neg (by omega) (Ev.is ?_)
    have : ¬ xs = ys := fun h => e (by rw [h])
    simp [this]
theorem l1In_ev (a b c : Int) : Ev (fun _ => spec_l1In.f a b c) (decide (b ≤ a ∧ a ≤ c)) := by
  refine Ev.flat ?_
  unfold spec_l1In.f
  by_cases h : b ≤ a <;> simp [h]
theorem within_ev (a b c : Int) : Ev (fun _ => impl_within.f a b c) (decide (b ≤ a ∧ a ≤ c)) := by
  refine Ev.flat ?_
  unfold impl_within.f
  by_cases h : b ≤ a <;> simp [h]
def areWeights (w : List Int) (n : Int) : Bool := decide ((∀ x ∈ w, 0 ≤ x ∧ x ≤ 10000000) ∧ 1 ≤ n ∧ n ≤ 5 ∧ (w.length : Int) = n)
theorem specAreWeights_loop (w : List Int) (n : Int) (hn : w.length ≤ 4611686018427387904) : ∀ (d i : Nat), i + d = w.length → (∀ x ∈ w.take i, 0 ≤ x ∧ x ≤ 10000000) →
    Ev (fun k => spec_AreWeights.l0 k w n (i : Int)) (areWeights w n) := by
  intro d
  induction d with
  | zero =>
    intro i hi ht
    rw [List.take_of_length_le (by omega)] at ht
    refine Ev.step (fun k => spec_AreWeights.l0.eq_2 _ _ _ _) (Ev.neg (by omega) (Ev.bind (l1In_ev _ _ _) ?_))
    by_cases h : 1 ≤ n ∧ n ≤ 5
    · refine Ev.pos (by simpa using h) (Ev.is ?_)
      unfold areWeights
      by_cases e : (w.length : Int) = n
      · rw [decide_eq_true ⟨ht, h.1, h.2, e⟩]; simpa using e
      · rw [decide_eq_false (fun z => e z.2.2.2)]; simpa using e
    · refine Ev.neg (by simpa using h) (Ev.is ?_)
      unfold areWeights
      rw [decide_eq_false (fun z => h ⟨z.2.1, z.2.2.1⟩)]
  | succ d ih =>
    intro i hi ht
    have hlt : i < w.length := by omega
    refine Ev.step (fun k => spec_AreWeights.l0.eq_2 _ _ _ _) (Ev.pos (by omega) (Ev.pos (by omega) (Ev.bind (l1In_ev _ _ _) ?_)))
    rw [wrapS (Nat.le_of_lt hlt) hn, rdN]
    by_cases h : 0 ≤ w.getD i 0 ∧ w.getD i 0 ≤ 10000000
    · refine Ev.pos (by simpa using h) (ih (i + 1) (by omega) ?_)
      rw [take_succ' w 0 i hlt]
      intro x hx
      rcases List.mem_append.1 hx with hx | hx
      · exact ht x hx
      · rw [List.mem_singleton.1 hx]; exact h
    · refine Ev.neg (by simpa using h) (Ev.is ?_)
      unfold areWeights
      rw [decide_eq_false (fun z => h (z.1 _ (mem_getD w 0 i hlt)))]
theorem specAreWeights_ev (w : List Int) (n : Int) (hn : w.length ≤ 4611686018427387904) : Ev (fun k => spec_AreWeights.f k w n) (areWeights w n) :=
  specAreWeights_loop w n hn w.length 0 (by omega) (fun _ h => by cases h)
theorem implAreWeights_loop (w : List Int) (n : Int) (hn : w.length ≤ 4611686018427387904) : ∀ (d i : Nat), i + d = w.length → (∀ x ∈ w.take i, 0 ≤ x ∧ x ≤ 10000000) →
    Ev (fun k => impl_AreWeights.l0 k w n w (w.length : Int) (i : Int)) (areWeights w n) := by
  intro d
  induction d with
  | zero =>
    intro i hi ht
    rw [List.take_of_length_le (by omega)] at ht
    refine Ev.step (fun k => impl_AreWeights.l0.eq_2 _ _ _ _ _ _) (Ev.neg (by omega) (Ev.bind (within_ev _ _ _) ?_))
    by_cases h : 1 ≤ n ∧ n ≤ 5
    · refine Ev.pos (by simpa using h) (Ev.is ?_)
      unfold areWeights
      by_cases e : (w.length : Int) = n
      · rw [decide_eq_true ⟨ht, h.1, h.2, e⟩]; simpa using e
      · rw [decide_eq_false (fun z => e z.2.2.2)]; simpa using e
    · refine Ev.neg (by simpa using h) (Ev.is ?_)
      unfold areWeights
      rw [decide_eq_false (fun z => h ⟨z.2.1, z.2.2.1⟩)]
  | succ d ih =>
    intro i hi ht
    have hlt : i < w.length := by omega
    refine Ev.step (fun k => impl_AreWeights.l0.eq_2 _ _ _ _ _ _) (Ev.pos (by omega) (Ev.pos (by omega) (Ev.pos (by omega) (Ev.bind (within_ev _ _ _) ?_))))
    rw [wrapS (Nat.le_of_lt hlt) hn, rdN]
    by_cases h : 0 ≤ w.getD i 0 ∧ w.getD i 0 ≤ 10000000
    · refine Ev.pos (by simpa using h) (ih (i + 1) (by omega) ?_)
      rw [take_succ' w 0 i hlt]
      intro x hx
      rcases List.mem_append.1 hx with hx | hx
      · exact ht x hx
      · rw [List.mem_singleton.1 hx]; exact h
    · refine Ev.neg (by simpa using h) (Ev.is ?_)
      unfold areWeights
      rw [decide_eq_false (fun z => h (z.1 _ (mem_getD w 0 i hlt)))]
theorem implAreWeights_ev (w : List Int) (n : Int) (hn : w.length ≤ 4611686018427387904) : Ev (fun k => impl_AreWeights.f k w n) (areWeights w n) :=
  implAreWeights_loop w n hn w.length 0 (by omega) (fun _ h => by cases h)
theorem FnExactAreWeights (l0 : List (Int)) (a1 : Int) (h0 : (l0.length ≤ maxLen ∧ ∀ y1 ∈ l0, (Lit.int .i64 y1).wf = true)) (h1 : (Lit.int .i64 a1).wf = true) : ∃ k, laws_FnExactAreWeights.f k l0 a1 = some true := by
  refine Ev.rounds (g := fun k => laws_FnExactAreWeights.f k l0 a1) ?_
  unfold laws_FnExactAreWeights.f
  by_cases h : (l0.length : Int) > 1048576
  · exact Ev.pos h (Ev.now _)
  refine Ev.neg h ?_
  have hn : l0.length ≤ 35184372088832 := by omega
  have hm : l0.length ≤ 4611686018427387904 := by omega
  refine Ev.bind (toIntS_ev l0 hn) (Ev.bind (specAreWeights_ev l0 a1 hm) (Ev.bind (toIntS_ev l0 hn) (Ev.bind (implAreWeights_ev l0 a1 hm) (Ev.neg (by simp) (Ev.bind (toIntS_ev l0 hn) (Ev.bind (eqIntS_ev l0 l0 hm) (Ev.pos (by simp) (Ev.now _))))))))
end Go.Proofs.Ytpkldnbigmhblaa.Pure
