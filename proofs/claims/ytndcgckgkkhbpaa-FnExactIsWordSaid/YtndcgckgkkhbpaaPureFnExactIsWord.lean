/- The program's IsWord and the reference's answer alike, and the argument stays. Conditions: what a slice may hold at most. -/
import Derived.Test.YtndcgckgkkhbpaaPFnExactIsWordx0
import Derived.Test.YtndcgckgkkhbpaaPFnExactIsWordx1
import Derived.Test.YtndcgckgkkhbpaaPFnExactIsWordx2
import Derived.Test.YtndcgckgkkhbpaaPFnExactIsWordx3
import Derived.Test.YtndcgckgkkhbpaaPFnExactIsWordx4
import Derived.Test.YtndcgckgkkhbpaaPFnExactIsWordx5
import Derived.Test.YtndcgckgkkhbpaaPFnExactIsWordx6
import Derived.Test.YtndcgckgkkhbpaaPFnExactIsWordx7
import Derived.Test.YtndcgckgkkhbpaaKit
import Derived.WideShapes
import Derived.Laws.Strings
set_option linter.unusedVariables false
set_option linter.unusedSimpArgs false
namespace Go.Proofs.Ytndcgckgkkhbpaa.Pure
open Go.RowKit Go.WideShapes Go.Proofs.Ytndcgckgkkhbpaa.PFnExactIsWord Go.Proofs.Ytndcgckgkkhbpaa.Kit Go.Proofs.YtndcgckgkkhbpaaW.PrintWords Go.Proofs.YtndcgckgkkhbpaaW.PrintLast
theorem l1In_ev (a b c : Int) : Ev (fun _ => spec_l1In.f a b c) (decide (b ≤ a ∧ a ≤ c)) := by
  refine Ev.flat ?_
  unfold spec_l1In.f
  by_cases h : b ≤ a <;> simp [h]
theorem within_ev (a b c : Int) : Ev (fun _ => impl_within.f a b c) (decide (b ≤ a ∧ a ≤ c)) := by
  refine Ev.flat ?_
  unfold impl_within.f
  by_cases h : b ≤ a <;> simp [h]
abbrev IFt := S164
abbrev IFg := S80
deriving instance DecidableEq for S164
deriving instance DecidableEq for S80
def stressK (f : IFg) : List Int := (spec_StressesOf.f 200 f.f0 f.f1 f.f2).getD []
theorem footings_ev (n : Int) : ∃ L : List IFg, Ev (fun k => spec_FootingsOf.f k n) L ∧ Ev (fun k => impl_FootingsOf.f k n) L ∧ L.length ≤ 1000 ∧
    ∀ f ∈ L, Ev (fun k => spec_StressesOf.f k f.f0 f.f1 f.f2) (stressK f) ∧ Ev (fun k => impl_StressesOf.f k f.f0 f.f1 f.f2) (stressK f) ∧ (stressK f).length ≤ 1000 := by
  by_cases h : 1 ≤ n ∧ n ≤ 4
  · have key : ∀ n : Int, spec_FootingsOf.f 2000 n = impl_FootingsOf.f 2000 n → (match impl_FootingsOf.f 2000 n with | some L => decide (L.length ≤ 1000) && L.all (fun f => decide (spec_StressesOf.f 200 f.f0 f.f1 f.f2 = some (stressK f)) && decide (impl_StressesOf.f 200 f.f0 f.f1 f.f2 = some (stressK f)) && decide ((stressK f).length ≤ 1000)) | none => false) = true →
        ∃ L : List IFg, Ev (fun k => spec_FootingsOf.f k n) L ∧ Ev (fun k => impl_FootingsOf.f k n) L ∧ L.length ≤ 1000 ∧
          ∀ f ∈ L, Ev (fun k => spec_StressesOf.f k f.f0 f.f1 f.f2) (stressK f) ∧ Ev (fun k => impl_StressesOf.f k f.f0 f.f1 f.f2) (stressK f) ∧ (stressK f).length ≤ 1000 := by
      intro n e g
      cases c : impl_FootingsOf.f 2000 n with
      | none => rw [c] at g; exact absurd g (by simp)
      | some L =>
        rw [c] at g e
        simp only [Bool.and_eq_true, decide_eq_true_eq, List.all_eq_true] at g
        exact ⟨L, Ev.of (spec_FootingsOf.mono n) e, Ev.of (impl_FootingsOf.mono n) c, g.1, fun f hf => ⟨Ev.of (spec_StressesOf.mono _ _ _) (g.2 f hf).1.1, Ev.of (impl_StressesOf.mono _ _ _) (g.2 f hf).1.2, (g.2 f hf).2⟩⟩
    have h4 : n = 1 ∨ n = 2 ∨ n = 3 ∨ n = 4 := by omega
    rcases h4 with rfl | rfl | rfl | rfl
    all_goals exact key _ (by decide +kernel) (by decide +kernel)
  · refine ⟨[], ?_, ?_, by simp, fun f hf => by cases hf⟩
    · unfold spec_FootingsOf.f
      exact Ev.bind (Ev.now _) (Ev.bind (l1In_ev _ _ _) (Ev.neg (by simpa using h) (Ev.now _)))
    · unfold impl_FootingsOf.f
      exact Ev.bind (within_ev _ _ _) (Ev.neg (by simpa using h) (Ev.now _))
theorem l5Same_ev (xs ys : List Int) (hn : xs.length ≤ 4611686018427387904) : Ev (fun k => spec_l5Same.f k xs ys) (decide (xs = ys)) := by
  unfold spec_l5Same.f
  by_cases e : xs.length = ys.length
  · refine Ev.pos (by omega) (all_loop (fun k i => spec_l5Same.l0 k xs ys i) xs.length (fun j => xs.getD j 0 = ys.getD j 0) true (fun i hi r h h' => ?_) (Ev.step (fun k => spec_l5Same.l0.eq_2 _ _ _ _) (Ev.neg (by omega) (Ev.now _))) xs.length 0 (by omega) _ ?_)
    · refine Ev.step (fun k => spec_l5Same.l0.eq_2 _ _ _ _) (Ev.pos (by omega) (Ev.pos (by omega) (Ev.pos (by omega) ?_)))
      rw [wrapS (Nat.le_of_lt hi) hn, rdN, rdN]
      by_cases c : xs.getD i 0 = ys.getD i 0
      · exact Ev.pos c (h c)
      · exact Ev.neg c (Ev.is (h' c).symm)
    · simpa using (list_eq_iff xs ys 0 e).symm
  · refine Ev.neg (by omega) (Ev.is (decide_eq_false (fun h => e (by rw [h]))).symm)
theorem slicesEqual_ev (xs ys : List Int) (hn : xs.length ≤ 4611686018427387904) : Ev (fun k => slices_Equal_int_int.f k xs ys) (decide (xs = ys)) := by
  unfold slices_Equal_int_int.f
  by_cases e : xs.length = ys.length
  · refine Ev.pos (by omega) (all_loop (fun k i => slices_Equal_int_int.l0 k xs ys (xs.length : Int) i) xs.length (fun j => xs.getD j 0 = ys.getD j 0) true (fun i hi r h h' => ?_) (Ev.step (fun k => slices_Equal_int_int.l0.eq_2 _ _ _ _ _) (Ev.neg (by omega) (Ev.now _))) xs.length 0 (by omega) _ ?_)
    · refine Ev.step (fun k => slices_Equal_int_int.l0.eq_2 _ _ _ _ _) (Ev.pos (by omega) (Ev.pos (by omega) (Ev.pos (by omega) (Ev.pos (by omega) ?_))))
      rw [wrapS (Nat.le_of_lt hi) hn, rdN, rdN]
      by_cases c : xs.getD i 0 = ys.getD i 0
      · exact Ev.pos c (h c)
      · exact Ev.neg c (Ev.is (h' c).symm)
    · simpa using (list_eq_iff xs ys 0 e).symm
  · refine Ev.neg (by omega) (Ev.is (decide_eq_false (fun h => e (by rw [h]))).symm)
def forStress (x : List Int) (L : List IFg) : List IFg := L.filter (fun f => decide (stressK f = x))
theorem specFor_loop (x : List Int) (L : List IFg) (hL : L.length ≤ 1000) (hs : ∀ f ∈ L, Ev (fun k => spec_StressesOf.f k f.f0 f.f1 f.f2) (stressK f) ∧ (stressK f).length ≤ 1000) :
    ∀ (d i : Nat) (out : List IFg), i + d = L.length → out.length ≤ i → Ev (fun k => spec_FootingsFor.l0 k x out L (i : Int)) (out ++ forStress x (L.drop i)) := by
  intro d
  induction d with
  | zero =>
    intro i out hi ho
    rw [List.drop_of_length_le (by omega)]
    exact Ev.step (fun k => spec_FootingsFor.l0.eq_2 _ _ _ _ _) (Ev.neg (by omega) (Ev.is (by simp [forStress])))
  | succ d ih =>
    intro i out hi ho
    have hlt : i < L.length := by omega
    obtain ⟨s1, s2⟩ := hs _ (mem_getD L z80 i hlt)
    refine Ev.step (fun k => spec_FootingsFor.l0.eq_2 _ _ _ _ _) (Ev.pos (by omega) (Ev.pos (by omega) ?_))
    rw [show rd_T80 L (i : Int) = L.getD i z80 from rfl, wrapS (Nat.le_of_lt hlt) (by omega), drop_cons L z80 i hlt, forStress, List.filter_cons]
    refine Ev.bind s1 (Ev.bind (l5Same_ev _ x (by omega)) ?_)
    by_cases c : decide (stressK (L.getD i z80) = x) = true
    · rw [if_pos c]
      refine Ev.pos c (Ev.pos (by omega) ?_)
      have := ih (i + 1) (out ++ [L.getD i z80]) (by omega) (by rw [List.length_append, List.length_singleton]; omega)
      rw [List.append_assoc] at this
      exact this
    · rw [if_neg c]
      exact Ev.neg c (ih (i + 1) out (by omega) (by omega))
theorem implFor_loop (x : List Int) (L : List IFg) (hL : L.length ≤ 1000) (hs : ∀ f ∈ L, Ev (fun k => impl_StressesOf.f k f.f0 f.f1 f.f2) (stressK f) ∧ (stressK f).length ≤ 1000) :
    ∀ (d i : Nat) (out : List IFg), i + d = L.length → out.length ≤ i → Ev (fun k => impl_FootingsFor.l0 k x out L (L.length : Int) (i : Int)) (out ++ forStress x (L.drop i)) := by
  intro d
  induction d with
  | zero =>
    intro i out hi ho
    rw [List.drop_of_length_le (by omega)]
    exact Ev.step (fun k => impl_FootingsFor.l0.eq_2 _ _ _ _ _ _) (Ev.neg (by omega) (Ev.is (by simp [forStress])))
  | succ d ih =>
    intro i out hi ho
    have hlt : i < L.length := by omega
    obtain ⟨s1, s2⟩ := hs _ (mem_getD L z80 i hlt)
    refine Ev.step (fun k => impl_FootingsFor.l0.eq_2 _ _ _ _ _ _) (Ev.pos (by omega) (Ev.pos (by omega) (Ev.pos (by omega) ?_)))
    rw [show rd_T80 L (i : Int) = L.getD i z80 from rfl, wrapS (Nat.le_of_lt hlt) (by omega), drop_cons L z80 i hlt, forStress, List.filter_cons]
    refine Ev.bind s1 (Ev.bind (slicesEqual_ev _ x (by omega)) ?_)
    by_cases c : decide (stressK (L.getD i z80) = x) = true
    · rw [if_pos c]
      refine Ev.pos c (Ev.pos (by omega) ?_)
      have := ih (i + 1) (out ++ [L.getD i z80]) (by omega) (by rw [List.length_append, List.length_singleton]; omega)
      rw [List.append_assoc] at this
      exact this
    · rw [if_neg c]
      exact Ev.neg c (ih (i + 1) out (by omega) (by omega))
theorem footingsFor_ev (x : List Int) : ∃ M : List IFg, Ev (fun k => spec_FootingsFor.f k x) M ∧ Ev (fun k => impl_FootingsFor.f k x) M := by
  obtain ⟨L, s1, s2, hL, hs⟩ := footings_ev (x.length : Int)
  refine ⟨forStress x L, ?_, ?_⟩
  · unfold spec_FootingsFor.f
    refine Ev.bind s1 ?_
    have := specFor_loop x L hL (fun f hf => ⟨(hs f hf).1, (hs f hf).2.2⟩) L.length 0 [] (by omega) (by simp)
    rw [List.drop_zero, List.nil_append] at this
    exact this
  · unfold impl_FootingsFor.f
    refine Ev.bind s2 ?_
    have := implFor_loop x L hL (fun f hf => ⟨(hs f hf).2.1, (hs f hf).2.2⟩) L.length 0 [] (by omega) (by simp)
    rw [List.drop_zero, List.nil_append] at this
    exact this
theorem isWord_ev (x : List Int) : ∃ b : Bool, Ev (fun k => spec_IsWord.f k x) b ∧ Ev (fun k => impl_IsWord.f k x) b := by
  obtain ⟨M, s1, s2⟩ := footingsFor_ev x
  unfold spec_IsWord.f impl_IsWord.f
  exact ⟨_, Ev.bind s1 (Ev.now _), Ev.bind s2 (Ev.now _)⟩
theorem szIntS_ev (l : List Int) (hl : l.length ≤ maxLen) (a : Int) (h0 : 0 ≤ a) (h1 : a ≤ 1048576) : ∃ r, Ev (fun _ => laws_szIntS.f l a) r ∧ -1 ≤ r ∧ r ≤ a ∧ (0 ≤ r → l.length ≤ 1048576) := by
  obtain ⟨r, hr, h⟩ := sz_leaf a l.length hl h0 h1
  exact ⟨r, Ev.flat hr, h⟩
theorem toIntS_loop (xs : List Int) (hn : xs.length ≤ 4611686018427387904) : ∀ (d i : Nat) (ys : List Int), i + d = xs.length → ys.length = xs.length → ys.take i = xs.take i →
    Ev (fun k => laws_toIntS.l0 k xs ys (i : Int)) xs := by
  intro d
  induction d with
  | zero =>
    intro i ys hi hl ht
    refine Ev.step (fun k => laws_toIntS.l0.eq_2 _ _ _ _) ?_
    refine Ev.neg (by omega) (Ev.is ?_)
    have e : i = xs.length := by omega
    rw [e, List.take_length, ← hl, List.take_length] at ht
    exact ht
  | succ d ih =>
    intro i ys hi hl ht
    have hlt : i < xs.length := by omega
    obtain ⟨h1, h2⟩ := set_fill xs ys 0 i hlt hl ht
    refine Ev.step (fun k => laws_toIntS.l0.eq_2 _ _ _ _) ?_
    refine Ev.pos (by omega) (Ev.pos (by omega) (Ev.pos (by omega) ?_))
    rw [wrapS (Nat.le_of_lt hlt) hn, rdN, Int.toNat_natCast]
    exact ih (i + 1) _ (by omega) h1 h2
theorem toIntS_ev (xs : List Int) (hn : xs.length ≤ 35184372088832) : Ev (fun k => laws_toIntS.f k xs) xs := by
  unfold laws_toIntS.f
  refine Ev.pos (by omega) (Ev.pos (by omega) ?_)
  rw [Int.toNat_natCast]
  exact toIntS_loop xs (by omega) xs.length 0 _ (by omega) (by rw [List.length_replicate]) rfl
theorem eqIntS_loop (xs ys : List Int) (hl : xs.length = ys.length) (hn : xs.length ≤ 4611686018427387904) : ∀ (d i : Nat), i + d = xs.length →
    Ev (fun k => laws_eqIntS.l0 k xs ys (i : Int)) (decide (xs.drop i = ys.drop i)) := by
  intro d
  induction d with
  | zero =>
    intro i hi
    refine Ev.step (fun k => laws_eqIntS.l0.eq_2 _ _ _ _) ?_
    refine Ev.neg (by omega) (Ev.is ?_)
    rw [List.drop_of_length_le (by omega), List.drop_of_length_le (by omega)]
    rfl
  | succ d ih =>
    intro i hi
    have hlt : i < xs.length := by omega
    refine Ev.step (fun k => laws_eqIntS.l0.eq_2 _ _ _ _) ?_
    refine Ev.pos (by omega) (Ev.pos (by omega) (Ev.pos (by omega) ?_))
    rw [wrapS (Nat.le_of_lt hlt) hn, rdN, rdN, drop_cons xs 0 i hlt, drop_cons ys 0 i (by omega)]
    by_cases e : xs.getD i 0 = ys.getD i 0
    · refine Ev.pos e (Ev.to (ih (i + 1) (by omega)) ?_)
      rw [e]
      exact decide_eq_decide.2 ⟨fun h => by rw [h], fun h => (List.cons.inj h).2⟩
    · exact Ev.neg e (Ev.is (decide_eq_false (fun h => e (List.cons.inj h).1)).symm)
theorem eqIntS_ev (xs ys : List Int) (hn : xs.length ≤ 4611686018427387904) : Ev (fun k => laws_eqIntS.f k xs ys) (decide (xs = ys)) := by
  unfold laws_eqIntS.f
  by_cases e : xs.length = ys.length
  · exact Ev.pos (by omega) (eqIntS_loop xs ys e hn xs.length 0 (by omega))
  · refine Ev.neg (by omega) (Ev.is ?_)
    have : ¬ xs = ys := fun h => e (by rw [h])
    simp [this]
theorem szWord_ev (l : List Int) (hl : l.length ≤ maxLen) (a : Int) (h0 : 0 ≤ a) (h1 : a ≤ 1048576) : ∃ r, Ev (fun _ => laws_szWord.f l a) r ∧ -1 ≤ r ∧ r ≤ a ∧ (0 ≤ r → l.length ≤ 1048576) := by
  obtain ⟨r, hr, h1, h2, h3⟩ := szIntS_ev l hl a h0 h1
  unfold laws_szWord.f
  by_cases c : r < 0
  · exact ⟨-1, Ev.bind hr (Ev.pos c (Ev.now _)), by omega, by omega, fun h => by omega⟩
  · exact ⟨r, Ev.bind hr (Ev.neg c (Ev.now _)), h1, h2, h3⟩
theorem toWord_ev (l : List Int) (hl : l.length ≤ 1048576) : Ev (fun k => laws_toWord.f k l) l := by
  unfold laws_toWord.f
  exact Ev.bind (toIntS_ev l (by omega)) (Ev.now _)
theorem eqWord_ev (a b : List Int) (hn : a.length ≤ 4611686018427387904) : Ev (fun k => laws_eqWord.f k a b) (decide (a = b)) := by
  unfold laws_eqWord.f
  refine Ev.bind (eqIntS_ev _ _ hn) ?_
  by_cases c : a = b
  · exact Ev.pos (decide_eq_true c) (Ev.is (decide_eq_true c).symm)
  · exact Ev.neg (by simpa using c) (Ev.is (decide_eq_false c).symm)
theorem FnExactIsWord (l0_0 : List (Int)) (h0_0 : (l0_0.length ≤ maxLen ∧ ∀ y1 ∈ l0_0, (Lit.int .i64 y1).wf = true)) : ∃ k, laws_FnExactIsWord.f k l0_0 = some true := by
  refine Ev.rounds (g := fun k => laws_FnExactIsWord.f k l0_0) ?_
  unfold laws_FnExactIsWord.f
  obtain ⟨q1, e1, a1, a2, a3⟩ := szWord_ev l0_0 h0_0.1 1048576 (by omega) (by omega)
  refine Ev.bind e1 ?_
  by_cases c1 : q1 < 0
  · exact Ev.pos c1 (Ev.now _)
  refine Ev.neg c1 ?_
  have b1 := a3 (by omega)
  have t0 := toWord_ev l0_0 b1
  obtain ⟨r, hs, hi⟩ := isWord_ev l0_0
  refine Ev.bind t0 (Ev.bind hs (Ev.bind t0 (Ev.bind hi (Ev.neg (by simp) ?_))))
  exact Ev.bind t0 (Ev.bind (eqWord_ev _ _ (by omega)) (Ev.pos (decide_eq_true rfl) (Ev.now _)))
end Go.Proofs.Ytndcgckgkkhbpaa.Pure
