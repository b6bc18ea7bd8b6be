/- The program's WeightsSatisfy and the reference's answer alike, and the arguments stay. Conditions: what a slice may hold at most. -/
import Derived.Test.YtpkldnbigmhblaaPFnExactWeightsSatisfyx0
import Derived.Test.YtpkldnbigmhblaaPFnExactWeightsSatisfyx1
import Derived.Test.YtpkldnbigmhblaaPFnExactWeightsSatisfyx2
import Derived.Test.YtpkldnbigmhblaaPFnExactWeightsSatisfyx3
import Derived.Test.YtpkldnbigmhblaaKit
import Derived.WideShapes
import Derived.Laws.Strings
set_option linter.unusedVariables false
set_option linter.unusedSimpArgs false
namespace Go.Proofs.Ytpkldnbigmhblaa.Pure
open Go.RowKit Go.WideShapes Go.Proofs.Ytpkldnbigmhblaa.PFnExactWeightsSatisfy Go.Proofs.Ytpkldnbigmhblaa.Kit Go.Proofs.YtpkldnbigmhblaaW.PrintWords Go.Proofs.YtpkldnbigmhblaaW.PrintLast
theorem toIntS_loop (xs : List Int) (hn : xs.length ≤ 4611686018427387904) : ∀ (d i : Nat) (ys : List Int), i + d = xs.length → ys.length = xs.length → ys.take i = xs.take i →
    Ev (fun k => laws_toIntS.l0 k xs ys (i : Int)) xs := by
  intro d
  induction d with
  | zero =>
    intro i ys hi hl ht
    refine Ev.step (fun k => laws_toIntS.l0.eq_2 _ _ _ _) ?_
    refine Ev.neg (by omega) (Ev.is ?_)
    have e : i = xs.length := by omega
    rw [e, List.take_length, ← hl, List.take_length] at ht
    exact ht
  | succ d ih =>
    intro i ys hi hl ht
    have hlt : i < xs.length := by omega
    obtain ⟨h1, h2⟩ := set_fill xs ys 0 i hlt hl ht
    refine Ev.step (fun k => laws_toIntS.l0.eq_2 _ _ _ _) ?_
    refine Ev.pos (by omega) (Ev.pos (by omega) (Ev.pos (by omega) ?_))
    rw [wrapS (Nat.le_of_lt hlt) hn, rdN, Int.toNat_natCast]
    exact ih (i + 1) _ (by omega) h1 h2
theorem toIntS_ev (xs : List Int) (hn : xs.length ≤ 35184372088832) : Ev (fun k => laws_toIntS.f k xs) xs := by
  unfold laws_toIntS.f
  refine Ev.pos (by omega) (Ev.pos (by omega) ?_)
  rw [Int.toNat_natCast]
  exact toIntS_loop xs (by omega) xs.length 0 _ (by omega) (by rw [List.length_replicate]) rfl
theorem eqIntS_loop (xs ys : List Int) (hl : xs.length = ys.length) (hn : xs.length ≤ 4611686018427387904) : ∀ (d i : Nat), i + d = xs.length →
    Ev (fun k => laws_eqIntS.l0 k xs ys (i : Int)) (decide (xs.drop i = ys.drop i)) := by
  intro d
  induction d with
  | zero =>
    intro i hi
    refine Ev.step (fun k => laws_eqIntS.l0.eq_2 _ _ _ _) ?_
    refine Ev.neg (by omega) (Ev.is ?_)
    rw [List.drop_of_length_le (by omega), List.drop_of_length_le (by omega)]
    rfl
  | succ d ih =>
    intro i hi
    have hlt : i < xs.length := by omega
    refine Ev.step (fun k => laws_eqIntS.l0.eq_2 _ _ _ _) ?_
    refine Ev.pos (by omega) (Ev.pos (by omega) (Ev.pos (by omega) ?_))
    rw [wrapS (Nat.le_of_lt hlt) hn, rdN, rdN, drop_cons xs 0 i hlt, drop_cons ys 0 i (by omega)]
    by_cases e : xs.getD i 0 = ys.getD i 0
    · refine Ev.pos e (Ev.to (ih (i + 1) (by omega)) ?_)
      rw [e]
      exact decide_eq_decide.2 ⟨fun h => by rw [h], fun h => (List.cons.inj h).2⟩
    · exact Ev.neg e (Ev.is (decide_eq_false (fun h => e (List.cons.inj h).1)).symm)
theorem eqIntS_ev (xs ys : List Int) (hn : xs.length ≤ 4611686018427387904) : Ev (fun k => laws_eqIntS.f k xs ys) (decide (xs = ys)) := by
  unfold laws_eqIntS.f
  by_cases e : xs.length = ys.length
  · exact Ev.pos (by omega) (eqIntS_loop xs ys e hn xs.length 0 (by omega))
  · refine Ev.neg (by omega) (Ev.is ?_)
    have : ¬ xs = ys := fun h => e (by rw [h])
    simp [this]
theorem szIntS_ev (l : List Int) (hl : l.length ≤ maxLen) (a : Int) (h0 : 0 ≤ a) (h1 : a ≤ 1048576) : ∃ r, Ev (fun _ => laws_szIntS.f l a) r ∧ -1 ≤ r ∧ r ≤ a ∧ (0 ≤ r → l.length ≤ 1048576) := by
  obtain ⟨r, hr, h⟩ := sz_leaf a l.length hl h0 h1
  exact ⟨r, Ev.flat hr, h⟩
theorem szIntSS_ev (xs : List (List Int)) (hn : xs.length ≤ maxLen) (hy : ∀ y ∈ xs, y.length ≤ maxLen) (a : Int) (h0 : 0 ≤ a) (h1 : a ≤ 1048576) :
    ∃ r, Ev (fun k => laws_szIntSS.f k xs a) r ∧ -1 ≤ r ∧ r ≤ a ∧ (0 ≤ r → xs.length ≤ 1048576 ∧ ∀ y ∈ xs, y.length ≤ 1048576) :=
  sz_slice (fun k a => laws_szIntSS.f k xs a) (fun k left i => laws_szIntSS.l0 k xs left i) xs (fun y => y.length ≤ 1048576) hn (fun _ _ => rfl)
    (fun hl left h0 h1 => sz_loop _ (fun _ y left => laws_szIntS.f y left) xs [] _ hl (fun k left i => laws_szIntSS.l0.eq_2 _ _ _ _) (fun y hm left h0 h1 => szIntS_ev y (hy y hm) left h0 h1) xs.length 0 left (by omega) h0 h1) a h0 h1
theorem toIntSS_ev (xs : List (List Int)) (hn : xs.length ≤ 1048576) (hy : ∀ y ∈ xs, y.length ≤ 1048576) : Ev (fun k => laws_toIntSS.f k xs) xs := by
  unfold laws_toIntSS.f
  refine Ev.pos (by omega) (Ev.pos (by omega) ?_)
  have h := to_loop (fun k ys i => laws_toIntSS.l0 k xs ys i) (fun k y => laws_toIntS.f k y) (fun t => t) (fun y => y) xs [] (by omega) (fun k ys i => laws_toIntSS.l0.eq_2 _ _ _ _)
    (fun y hm => toIntS_ev y (by have := hy y hm; omega)) xs.length 0 (List.replicate xs.length []) (by omega) (by rw [List.length_replicate]) rfl
  rw [List.map_id'] at h
  rw [Int.toNat_natCast]
  exact h
theorem eqIntSS_ev (xs ys : List (List Int)) (hn : xs.length ≤ 4611686018427387904) (hy : ∀ y ∈ xs, y.length ≤ 4611686018427387904) : Ev (fun k => laws_eqIntSS.f k xs ys) (decide (xs = ys)) :=
  eq_slice _ (fun k i => laws_eqIntSS.l0 k xs ys i) xs ys (fun _ => rfl)
    (fun e => eq_loop _ (fun k a b => laws_eqIntS.f k a b) xs ys [] e hn (fun k i => laws_eqIntSS.l0.eq_2 _ _ _ _) (fun a ha b _ => eqIntS_ev a b (hy a ha)) xs.length 0 (by omega))
theorem l1In_ev (a b c : Int) : Ev (fun _ => spec_l1In.f a b c) (decide (b ≤ a ∧ a ≤ c)) := by
  refine Ev.flat ?_
  unfold spec_l1In.f
  by_cases h : b ≤ a <;> simp [h]
theorem within_ev (a b c : Int) : Ev (fun _ => impl_within.f a b c) (decide (b ≤ a ∧ a ≤ c)) := by
  refine Ev.flat ?_
  unfold impl_within.f
  by_cases h : b ≤ a <;> simp [h]
def areWeights (w : List Int) (n : Int) : Bool := decide ((∀ x ∈ w, 0 ≤ x ∧ x ≤ 10000000) ∧ 1 ≤ n ∧ n ≤ 5 ∧ (w.length : Int) = n)
theorem specAreWeights_loop (w : List Int) (n : Int) (hn : w.length ≤ 4611686018427387904) : ∀ (d i : Nat), i + d = w.length → (∀ x ∈ w.take i, 0 ≤ x ∧ x ≤ 10000000) →
    Ev (fun k => spec_AreWeights.l0 k w n (i : Int)) (areWeights w n) := by
  intro d
  induction d with
  | zero =>
    intro i hi ht
    rw [List.take_of_length_le (by omega)] at ht
    refine Ev.step (fun k => spec_AreWeights.l0.eq_2 _ _ _ _) (Ev.neg (by omega) (Ev.bind (l1In_ev _ _ _) ?_))
    by_cases h : 1 ≤ n ∧ n ≤ 5
    · refine Ev.pos (by simpa using h) (Ev.is ?_)
      unfold areWeights
      by_cases e : (w.length : Int) = n
      · rw [decide_eq_true ⟨ht, h.1, h.2, e⟩]; simpa using e
      · rw [decide_eq_false (fun z => e z.2.2.2)]; simpa using e
    · refine Ev.neg (by simpa using h) (Ev.is ?_)
      unfold areWeights
      rw [decide_eq_false (fun z => h ⟨z.2.1, z.2.2.1⟩)]
  | succ d ih =>
    intro i hi ht
    have hlt : i < w.length := by omega
    refine Ev.step (fun k => spec_AreWeights.l0.eq_2 _ _ _ _) (Ev.pos (by omega) (Ev.pos (by omega) (Ev.bind (l1In_ev _ _ _) ?_)))
    rw [wrapS (Nat.le_of_lt hlt) hn, rdN]
    by_cases h : 0 ≤ w.getD i 0 ∧ w.getD i 0 ≤ 10000000
    · refine Ev.pos (by simpa using h) (ih (i + 1) (by omega) ?_)
      rw [take_succ' w 0 i hlt]
      intro x hx
      rcases List.mem_append.1 hx with hx | hx
      · exact ht x hx
      · rw [List.mem_singleton.1 hx]; exact h
    · refine Ev.neg (by simpa using h) (Ev.is ?_)
      unfold areWeights
      rw [decide_eq_false (fun z => h (z.1 _ (mem_getD w 0 i hlt)))]
theorem specAreWeights_ev (w : List Int) (n : Int) (hn : w.length ≤ 4611686018427387904) : Ev (fun k => spec_AreWeights.f k w n) (areWeights w n) :=
  specAreWeights_loop w n hn w.length 0 (by omega) (fun _ h => by cases h)
theorem implAreWeights_loop (w : List Int) (n : Int) (hn : w.length ≤ 4611686018427387904) : ∀ (d i : Nat), i + d = w.length → (∀ x ∈ w.take i, 0 ≤ x ∧ x ≤ 10000000) →
    Ev (fun k => impl_AreWeights.l0 k w n w (w.length : Int) (i : Int)) (areWeights w n) := by
  intro d
  induction d with
  | zero =>
    intro i hi ht
    rw [List.take_of_length_le (by omega)] at ht
    refine Ev.step (fun k => impl_AreWeights.l0.eq_2 _ _ _ _ _ _) (Ev.neg (by omega) (Ev.bind (within_ev _ _ _) ?_))
    by_cases h : 1 ≤ n ∧ n ≤ 5
    · refine Ev.pos (by simpa using h) (Ev.is ?_)
      unfold areWeights
      by_cases e : (w.length : Int) = n
      · rw [decide_eq_true ⟨ht, h.1, h.2, e⟩]; simpa using e
      · rw [decide_eq_false (fun z => e z.2.2.2)]; simpa using e
    · refine Ev.neg (by simpa using h) (Ev.is ?_)
      unfold areWeights
      rw [decide_eq_false (fun z => h ⟨z.2.1, z.2.2.1⟩)]
  | succ d ih =>
    intro i hi ht
    have hlt : i < w.length := by omega
    refine Ev.step (fun k => impl_AreWeights.l0.eq_2 _ _ _ _ _ _) (Ev.pos (by omega) (Ev.pos (by omega) (Ev.pos (by omega) (Ev.bind (within_ev _ _ _) ?_))))
    rw [wrapS (Nat.le_of_lt hlt) hn, rdN]
    by_cases h : 0 ≤ w.getD i 0 ∧ w.getD i 0 ≤ 10000000
    · refine Ev.pos (by simpa using h) (ih (i + 1) (by omega) ?_)
      rw [take_succ' w 0 i hlt]
      intro x hx
      rcases List.mem_append.1 hx with hx | hx
      · exact ht x hx
      · rw [List.mem_singleton.1 hx]; exact h
    · refine Ev.neg (by simpa using h) (Ev.is ?_)
      unfold areWeights
      rw [decide_eq_false (fun z => h (z.1 _ (mem_getD w 0 i hlt)))]
theorem implAreWeights_ev (w : List Int) (n : Int) (hn : w.length ≤ 4611686018427387904) : Ev (fun k => impl_AreWeights.f k w n) (areWeights w n) :=
  implAreWeights_loop w n hn w.length 0 (by omega) (fun _ h => by cases h)
def harmony (w marks : List Int) (i : Nat) : Nat → Int → Int
  | 0, acc => acc
  | d + 1, acc => if -100 ≤ marks.getD i 0 ∧ marks.getD i 0 ≤ 100 then harmony w marks (i + 1) d (wrap64 (acc + wrap64 (w.getD i 0 * marks.getD i 0))) else 0
def harmonyOf (w marks : List Int) : Int := if areWeights w (marks.length : Int) = true then harmony w marks 0 w.length 0 else 0
theorem specHarmony_loop (w marks : List Int) (hn : w.length ≤ 4611686018427387904) (hl : w.length = marks.length) : ∀ (d i : Nat) (acc : Int), i + d = w.length →
    Ev (fun k => spec_HarmonyOf.l0 k w marks acc (i : Int)) (harmony w marks i d acc) := by
  intro d
  induction d with
  | zero =>
    intro i acc hi
    exact Ev.step (fun k => spec_HarmonyOf.l0.eq_2 _ _ _ _ _) (Ev.neg (by omega) (Ev.now _))
  | succ d ih =>
    intro i acc hi
    have hlt : i < w.length := by omega
    refine Ev.step (fun k => spec_HarmonyOf.l0.eq_2 _ _ _ _ _) (Ev.pos (by omega) (Ev.pos (by omega) (Ev.pos (by omega) (Ev.bind (l1In_ev _ _ _) ?_))))
    rw [wrapS (Nat.le_of_lt hlt) hn, rdN, rdN, harmony]
    by_cases h : -100 ≤ marks.getD i 0 ∧ marks.getD i 0 ≤ 100
    · rw [if_pos h]
      exact Ev.pos (by simpa using h) (ih (i + 1) _ (by omega))
    · rw [if_neg h]
      exact Ev.neg (by simpa using h) (Ev.now _)
theorem specHarmony_ev (w marks : List Int) (hn : w.length ≤ 4611686018427387904) : Ev (fun k => spec_HarmonyOf.f k w marks) (harmonyOf w marks) := by
  unfold spec_HarmonyOf.f harmonyOf
  refine Ev.bind (specAreWeights_ev w _ hn) ?_
  by_cases h : areWeights w (marks.length : Int) = true
  · rw [if_pos h]
    refine Ev.pos h ?_
    unfold areWeights at h
    have := of_decide_eq_true h
    exact specHarmony_loop w marks hn (by omega) w.length 0 0 (by omega)
  · rw [if_neg h]
    exact Ev.neg h (Ev.now _)
theorem implHarmony_loop (w marks : List Int) (hn : w.length ≤ 4611686018427387904) (hl : w.length = marks.length) : ∀ (d i : Nat) (acc : Int), i + d = w.length →
    Ev (fun k => impl_HarmonyOf.l0 k w acc marks (marks.length : Int) (i : Int)) (harmony w marks i d acc) := by
  intro d
  induction d with
  | zero =>
    intro i acc hi
    exact Ev.step (fun k => impl_HarmonyOf.l0.eq_2 _ _ _ _ _ _) (Ev.neg (by omega) (Ev.now _))
  | succ d ih =>
    intro i acc hi
    have hlt : i < w.length := by omega
    refine Ev.step (fun k => impl_HarmonyOf.l0.eq_2 _ _ _ _ _ _) (Ev.pos (by omega) (Ev.pos (by omega) (Ev.pos (by omega) (Ev.bind (within_ev _ _ _) ?_))))
    rw [wrapS (Nat.le_of_lt hlt) hn, rdN, rdN, harmony]
    by_cases h : -100 ≤ marks.getD i 0 ∧ marks.getD i 0 ≤ 100
    · rw [if_pos h, Int.mul_comm (marks.getD i 0)]
      exact Ev.pos (by simpa using h) (Ev.pos (by omega) (ih (i + 1) _ (by omega)))
    · rw [if_neg h]
      exact Ev.neg (by simpa using h) (Ev.now _)
theorem implHarmony_ev (w marks : List Int) (hn : w.length ≤ 4611686018427387904) : Ev (fun k => impl_HarmonyOf.f k w marks) (harmonyOf w marks) := by
  unfold impl_HarmonyOf.f harmonyOf
  refine Ev.bind (implAreWeights_ev w _ hn) ?_
  by_cases h : areWeights w (marks.length : Int) = true
  · rw [if_pos h]
    refine Ev.pos h ?_
    unfold areWeights at h
    have := of_decide_eq_true h
    exact implHarmony_loop w marks hn (by omega) w.length 0 0 (by omega)
  · rw [if_neg h]
    exact Ev.neg h (Ev.now _)
def weightsSatisfy (w : List Int) : List (List Int) → Bool
  | [] => areWeights w (w.length : Int)
  | d :: ds => if d.length = w.length then (if harmonyOf w d ≤ 0 then false else weightsSatisfy w ds) else false
theorem specWeightsSatisfy_loop (w : List Int) (xs : List (List Int)) (hw : w.length ≤ 4611686018427387904) (hn : xs.length ≤ 4611686018427387904) : ∀ (d i : Nat), i + d = xs.length → Ev (fun k => spec_WeightsSatisfy.l0 k w xs (i : Int)) (weightsSatisfy w (xs.drop i)) := by
  intro d
  induction d with
  | zero =>
    intro i hi
    rw [List.drop_of_length_le (by omega)]
    exact Ev.step (fun k => spec_WeightsSatisfy.l0.eq_2 _ _ _ _) (Ev.neg (by omega) (Ev.bind (specAreWeights_ev w _ hw) (Ev.now _)))
  | succ d ih =>
    intro i hi
    have hlt : i < xs.length := by omega
    refine Ev.step (fun k => spec_WeightsSatisfy.l0.eq_2 _ _ _ _) (Ev.pos (by omega) (Ev.pos (by omega) ?_))
    rw [wrapS (Nat.le_of_lt hlt) hn, drop_cons xs [] i hlt, weightsSatisfy, show rd_L1 xs (i : Int) = xs.getD i [] from rfl]
    by_cases h : (xs.getD i []).length = w.length
    · rw [if_pos h]
      refine Ev.pos (by omega) (Ev.bind (specHarmony_ev w _ hw) ?_)
      by_cases h' : harmonyOf w (xs.getD i []) ≤ 0
      · rw [if_pos h']; exact Ev.pos h' (Ev.now _)
      · rw [if_neg h']; exact Ev.neg h' (ih (i + 1) (by omega))
    · rw [if_neg h]; exact Ev.neg (by omega) (Ev.now _)
theorem specWeightsSatisfy_ev (w : List Int) (xs : List (List Int)) (hw : w.length ≤ 4611686018427387904) (hn : xs.length ≤ 4611686018427387904) : Ev (fun k => spec_WeightsSatisfy.f k w xs) (weightsSatisfy w xs) :=
  specWeightsSatisfy_loop w xs hw hn xs.length 0 (by omega)
theorem implWeightsSatisfy_loop (w : List Int) (xs : List (List Int)) (hw : w.length ≤ 4611686018427387904) (hn : xs.length ≤ 4611686018427387904) : ∀ (d i : Nat), i + d = xs.length → Ev (fun k => impl_WeightsSatisfy.l0 k w xs (xs.length : Int) (i : Int)) (weightsSatisfy w (xs.drop i)) := by
  intro d
  induction d with
  | zero =>
    intro i hi
    rw [List.drop_of_length_le (by omega)]
    exact Ev.step (fun k => impl_WeightsSatisfy.l0.eq_2 _ _ _ _ _) (Ev.neg (by omega) (Ev.bind (implAreWeights_ev w _ hw) (Ev.now _)))
  | succ d ih =>
    intro i hi
    have hlt : i < xs.length := by omega
    refine Ev.step (fun k => impl_WeightsSatisfy.l0.eq_2 _ _ _ _ _) (Ev.pos (by omega) (Ev.pos (by omega) (Ev.pos (by omega) ?_)))
    rw [wrapS (Nat.le_of_lt hlt) hn, drop_cons xs [] i hlt, weightsSatisfy, show rd_L1 xs (i : Int) = xs.getD i [] from rfl]
    by_cases h : (xs.getD i []).length = w.length
    · rw [if_pos h]
      refine Ev.pos (by omega) (Ev.bind (implHarmony_ev w _ hw) ?_)
      by_cases h' : harmonyOf w (xs.getD i []) ≤ 0
      · rw [if_pos h']; exact Ev.pos h' (Ev.now _)
      · rw [if_neg h']; exact Ev.neg h' (ih (i + 1) (by omega))
    · rw [if_neg h]; exact Ev.neg (by omega) (Ev.now _)
theorem implWeightsSatisfy_ev (w : List Int) (xs : List (List Int)) (hw : w.length ≤ 4611686018427387904) (hn : xs.length ≤ 4611686018427387904) : Ev (fun k => impl_WeightsSatisfy.f k w xs) (weightsSatisfy w xs) :=
  implWeightsSatisfy_loop w xs hw hn xs.length 0 (by omega)
theorem FnExactWeightsSatisfy (l0 : List (Int)) (l1 : List (List (Int))) (h0 : (l0.length ≤ maxLen ∧ ∀ y1 ∈ l0, (Lit.int .i64 y1).wf = true)) (h1 : (l1.length ≤ maxLen ∧ ∀ y2 ∈ l1, (y2.length ≤ maxLen ∧ ∀ y3 ∈ y2, (Lit.int .i64 y3).wf = true))) : ∃ k, laws_FnExactWeightsSatisfy.f k l0 l1 = some true := by
  refine Ev.rounds (g := fun k => laws_FnExactWeightsSatisfy.f k l0 l1) ?_
  unfold laws_FnExactWeightsSatisfy.f
  by_cases h : (l0.length : Int) > 1048576
  · exact Ev.pos h (Ev.now _)
  refine Ev.neg h ?_
  have hn : l0.length ≤ 35184372088832 := by omega
  have hm : l0.length ≤ 4611686018427387904 := by omega
  obtain ⟨r, hr, hr1, _, hg⟩ := szIntSS_ev l1 h1.1 (fun y hy => (h1.2 y hy).1) 1048576 (by omega) (by omega)
  refine Ev.bind hr ?_
  by_cases c : r < 0
  · exact Ev.pos c (Ev.now _)
  refine Ev.neg c ?_
  obtain ⟨hl, hy⟩ := hg (by omega)
  have hl' : l1.length ≤ 4611686018427387904 := by omega
  have hy' : ∀ y ∈ l1, y.length ≤ 4611686018427387904 := fun y h => by have := hy y h; omega
  refine Ev.bind (toIntS_ev l0 hn) (Ev.bind (toIntSS_ev l1 hl hy) (Ev.bind (specWeightsSatisfy_ev l0 l1 hm hl') (Ev.bind (toIntS_ev l0 hn) (Ev.bind (toIntSS_ev l1 hl hy) (Ev.bind (implWeightsSatisfy_ev l0 l1 hm hl') (Ev.neg (by simp) ?_))))))
  refine Ev.bind (toIntS_ev l0 hn) (Ev.bind (eqIntS_ev l0 l0 hm) (Ev.pos (by simp) ?_))
  exact Ev.bind (toIntSS_ev l1 hl hy) (Ev.bind (eqIntSS_ev l1 l1 hl' hy') (Ev.pos (by simp) (Ev.now _)))
end Go.Proofs.Ytpkldnbigmhblaa.Pure
