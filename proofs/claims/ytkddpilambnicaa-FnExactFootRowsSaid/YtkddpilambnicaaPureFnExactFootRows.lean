/- The program's FootRows and the reference's answer alike, the arguments stay, and what is returned is new. Conditions: what slices may hold at most. -/
import Derived.Test.YtkddpilambnicaaPFnExactFootRowsx0
import Derived.Test.YtkddpilambnicaaPFnExactFootRowsx1
import Derived.Test.YtkddpilambnicaaPFnExactFootRowsx2
import Derived.Test.YtkddpilambnicaaPFnExactFootRowsx3
import Derived.Test.YtkddpilambnicaaPFnExactFootRowsx4
import Derived.Test.YtkddpilambnicaaPFnExactFootRowsx5
import Derived.Test.YtkddpilambnicaaPFnExactFootRowsx6
import Derived.Test.YtkddpilambnicaaPFnExactFootRowsx7
import Derived.Test.YtkddpilambnicaaPFnExactFootRowsx8
import Derived.Test.YtkddpilambnicaaPFnExactFootRowsx9
import Derived.Test.YtkddpilambnicaaPFnExactFootRowsx10
import Derived.Test.YtkddpilambnicaaPFnExactFootRowsx11
import Derived.Test.YtkddpilambnicaaPFnExactFootRowsx12
import Derived.Test.YtkddpilambnicaaPFnExactFootRowsx13
import Derived.Test.YtkddpilambnicaaPFnExactFootRowsx14
import Derived.Test.YtkddpilambnicaaPFnExactFootRowsx15
import Derived.Test.YtkddpilambnicaaPFnExactFootRowsx16
import Derived.Test.YtkddpilambnicaaPFnExactFootRowsx17
import Derived.Test.YtkddpilambnicaaKit
import Derived.WideShapes
import Derived.Laws.Strings
set_option linter.unusedVariables false
set_option linter.unusedSimpArgs false
namespace Go.Proofs.Ytkddpilambnicaa.Pure
open Go.RowKit Go.WideShapes Go.Proofs.Ytkddpilambnicaa.PFnExactFootRows Go.Proofs.Ytkddpilambnicaa.Kit Go.Proofs.YtkddpilambnicaaW.PrintWords Go.Proofs.YtkddpilambnicaaW.PrintLast
theorem l1In_ev (a b c : Int) : Ev (fun _ => spec_l1In.f a b c) (decide (b ≤ a ∧ a ≤ c)) := by
  refine Ev.flat ?_
  unfold spec_l1In.f
  by_cases h : b ≤ a <;> simp [h]
theorem within_ev (a b c : Int) : Ev (fun _ => impl_within.f a b c) (decide (b ≤ a ∧ a ≤ c)) := by
  refine Ev.flat ?_
  unfold impl_within.f
  by_cases h : b ≤ a <;> simp [h]
def isRow (m : List Int) (n : Int) : Bool := decide ((∀ x ∈ m, -1 ≤ x ∧ x ≤ 1) ∧ 1 ≤ n ∧ n ≤ 5 ∧ (m.length : Int) = n)
theorem isRow_end (m : List Int) (n : Int) (ht : ∀ x ∈ m, -1 ≤ x ∧ x ≤ 1) (g : Nat → Option Bool) (hg : ∀ k, g k = (if decide (1 ≤ n ∧ n ≤ 5) = true then (some ((m.length : Int) == n)) else (some false))) : Ev g (isRow m n) := by
  refine Ev.congr hg ?_
  by_cases h : 1 ≤ n ∧ n ≤ 5
  · refine Ev.pos (by simpa using h) (Ev.is ?_)
    unfold isRow
    by_cases e : (m.length : Int) = n
    · rw [decide_eq_true ⟨ht, h.1, h.2, e⟩]; simpa using e
    · rw [decide_eq_false (fun z => e z.2.2.2)]; simpa using e
  · refine Ev.neg (by simpa using h) (Ev.is ?_)
    unfold isRow
    rw [decide_eq_false (fun z => h ⟨z.2.1, z.2.2.1⟩)]
theorem specIsRow_loop (m : List Int) (n : Int) (hn : m.length ≤ 4611686018427387904) : ∀ (d i : Nat), i + d = m.length → (∀ x ∈ m.take i, -1 ≤ x ∧ x ≤ 1) → Ev (fun k => spec_IsRow.l0 k n (i : Int) m) (isRow m n) := by
  intro d
  induction d with
  | zero =>
    intro i hi ht
    rw [List.take_of_length_le (by omega)] at ht
    exact Ev.step (fun k => spec_IsRow.l0.eq_2 _ _ _ _) (Ev.neg (by omega) (Ev.bind (l1In_ev _ _ _) (isRow_end m n ht _ (fun _ => rfl))))
  | succ d ih =>
    intro i hi ht
    have hlt : i < m.length := by omega
    refine Ev.step (fun k => spec_IsRow.l0.eq_2 _ _ _ _) (Ev.pos (by omega) (Ev.pos (by omega) (Ev.bind (l1In_ev _ _ _) ?_)))
    rw [wrapS (Nat.le_of_lt hlt) hn, rdN]
    by_cases h : -1 ≤ m.getD i 0 ∧ m.getD i 0 ≤ 1
    · refine Ev.pos (by simpa using h) (ih (i + 1) (by omega) ?_)
      rw [take_succ' m 0 i hlt]
      intro x hx
      rcases List.mem_append.1 hx with hx | hx
      · exact ht x hx
      · rw [List.mem_singleton.1 hx]; exact h
    · refine Ev.neg (by simpa using h) (Ev.is ?_)
      unfold isRow
      rw [decide_eq_false (fun z => h (z.1 _ (mem_getD m 0 i hlt)))]
theorem specIsRow_ev (m : List Int) (n : Int) (hn : m.length ≤ 4611686018427387904) : Ev (fun k => spec_IsRow.f k m n) (isRow m n) :=
  specIsRow_loop m n hn m.length 0 (by omega) (fun _ h => by cases h)
theorem implIsRow_loop (m : List Int) (n : Int) (hn : m.length ≤ 4611686018427387904) : ∀ (d i : Nat), i + d = m.length → (∀ x ∈ m.take i, -1 ≤ x ∧ x ≤ 1) → Ev (fun k => impl_IsRow.l0 k n m (m.length : Int) (i : Int) m) (isRow m n) := by
  intro d
  induction d with
  | zero =>
    intro i hi ht
    rw [List.take_of_length_le (by omega)] at ht
    exact Ev.step (fun k => impl_IsRow.l0.eq_2 _ _ _ _ _ _) (Ev.neg (by omega) (Ev.bind (within_ev _ _ _) (isRow_end m n ht _ (fun _ => rfl))))
  | succ d ih =>
    intro i hi ht
    have hlt : i < m.length := by omega
    refine Ev.step (fun k => impl_IsRow.l0.eq_2 _ _ _ _ _ _) (Ev.pos (by omega) (Ev.pos (by omega) (Ev.pos (by omega) (Ev.bind (within_ev _ _ _) ?_))))
    rw [wrapS (Nat.le_of_lt hlt) hn, rdN]
    by_cases h : -1 ≤ m.getD i 0 ∧ m.getD i 0 ≤ 1
    · refine Ev.pos (by simpa using h) (ih (i + 1) (by omega) ?_)
      rw [take_succ' m 0 i hlt]
      intro x hx
      rcases List.mem_append.1 hx with hx | hx
      · exact ht x hx
      · rw [List.mem_singleton.1 hx]; exact h
    · refine Ev.neg (by simpa using h) (Ev.is ?_)
      unfold isRow
      rw [decide_eq_false (fun z => h (z.1 _ (mem_getD m 0 i hlt)))]
theorem implIsRow_ev (m : List Int) (n : Int) (hn : m.length ≤ 4611686018427387904) : Ev (fun k => impl_IsRow.f k m n) (isRow m n) :=
  implIsRow_loop m n hn m.length 0 (by omega) (fun _ h => by cases h)
theorem intIndex_loop (xs : List Int) (v : Int) (hn : xs.length ≤ 4611686018427387904) : ∀ (d i : Nat), i + d = xs.length → ∃ r, Ev (fun k => slices_Index_int_int.l0 k xs v (xs.length : Int) (i : Int)) r ∧ (0 ≤ r ↔ v ∈ xs.drop i) := by
  intro d
  induction d with
  | zero =>
    intro i hi
    refine ⟨-1, Ev.step (fun k => slices_Index_int_int.l0.eq_2 _ _ _ _ _) (Ev.neg (by omega) (Ev.now _)), ?_⟩
    rw [List.drop_of_length_le (by omega)]
    simp
  | succ d ih =>
    intro i hi
    have hlt : i < xs.length := by omega
    rw [drop_cons xs 0 i hlt]
    by_cases c : v = xs.getD i 0
    · exact ⟨(i : Int), Ev.step (fun k => slices_Index_int_int.l0.eq_2 _ _ _ _ _) (Ev.pos (by omega) (Ev.pos (by omega) (Ev.pos (by omega) (Ev.pos c (Ev.now _))))), ⟨fun _ => by rw [c]; exact List.mem_cons_self .., fun _ => by omega⟩⟩
    · obtain ⟨r, hr, h⟩ := ih (i + 1) (by omega)
      refine ⟨r, Ev.step (fun k => slices_Index_int_int.l0.eq_2 _ _ _ _ _) (Ev.pos (by omega) (Ev.pos (by omega) (Ev.pos (by omega) (Ev.neg c ?_)))), h.trans ⟨fun z => List.mem_cons_of_mem _ z, fun z => ?_⟩⟩
      · rw [wrapS (Nat.le_of_lt hlt) hn]; exact hr
      · rcases List.mem_cons.1 z with z | z
        · exact absurd z c
        · exact z
theorem intContains_ev (xs : List Int) (v : Int) (hn : xs.length ≤ 4611686018427387904) : Ev (fun k => slices_Contains_int_int.f k xs v) (decide (v ∈ xs)) := by
  unfold slices_Contains_int_int.f slices_Index_int_int.f
  obtain ⟨r, hr, h⟩ := intIndex_loop xs v hn xs.length 0 (by omega)
  rw [List.drop_zero] at h
  exact Ev.bind hr (Ev.is (decide_eq_decide.2 h))
def sgM (a b : Int) : Int := if a < b then 1 else if a > b then -1 else 0
def rowM (w l : List Int) : List Int := List.zipWith sgM w l
theorem rowM_cons (a b : Int) (p q : List Int) : rowM (a :: p) (b :: q) = sgM a b :: rowM p q := rfl
theorem rowM_length (w l : List Int) (h : w.length = l.length) : (rowM w l).length = w.length := by
  unfold rowM
  rw [List.length_zipWith, h, Nat.min_self]
theorem sgM_range (a b : Int) : -1 ≤ sgM a b ∧ sgM a b ≤ 1 := by
  unfold sgM
  by_cases c : a < b
  · rw [if_pos c]; omega
  · rw [if_neg c]
    by_cases c' : a > b
    · rw [if_pos c']; omega
    · rw [if_neg c']; omega
theorem rowM_range : ∀ (w l : List Int), ∀ x ∈ rowM w l, -1 ≤ x ∧ x ≤ 1
  | [], _ => fun x h => by simp [rowM] at h
  | _ :: _, [] => fun x h => by simp [rowM] at h
  | a :: p, b :: q => fun x h => by
    rw [rowM_cons] at h
    rcases List.mem_cons.1 h with rfl | h
    · exact sgM_range a b
    · exact rowM_range p q x h
theorem specRow_loop (w l : List Int) (hw : w.length = l.length) (hs : w.length ≤ 5) : ∀ (d i : Nat) (acc : List Int), i + d = w.length → acc.length ≤ i → Ev (fun k => spec_RowOf.l0 k w l (i : Int) acc) (acc ++ rowM (w.drop i) (l.drop i), true) := by
  intro d
  induction d with
  | zero =>
    intro i acc hi ha
    rw [List.drop_of_length_le (by omega)]
    exact Ev.step (fun k => spec_RowOf.l0.eq_2 _ _ _ _ _) (Ev.neg (by omega) (Ev.is (by simp [rowM])))
  | succ d ih =>
    intro i acc hi ha
    have go : ∀ z : Int, Ev (fun k => spec_RowOf.l0 k w l ((i + 1 : Nat) : Int) (acc ++ [z])) (acc ++ z :: rowM (w.drop (i + 1)) (l.drop (i + 1)), true) := fun z => by
      have := ih (i + 1) (acc ++ [z]) (by omega) (by rw [List.length_append, List.length_singleton]; omega)
      rw [List.append_assoc] at this
      exact this
    refine Ev.step (fun k => spec_RowOf.l0.eq_2 _ _ _ _ _) (Ev.pos (by omega) (Ev.pos (by omega) (Ev.pos (by omega) ?_)))
    rw [rdN, rdN, wrapS (n := i) (Nat.le_refl _) (by omega), drop_cons w 0 i (by omega), drop_cons l 0 i (by omega), rowM_cons]
    unfold sgM
    by_cases c : w.getD i 0 < l.getD i 0
    · rw [if_pos c]; exact Ev.pos c (Ev.pos (by omega) (go 1))
    · rw [if_neg c]
      refine Ev.neg c ?_
      by_cases c' : w.getD i 0 > l.getD i 0
      · rw [if_pos c']; exact Ev.pos c' (Ev.pos (by omega) (go (-1)))
      · rw [if_neg c']; exact Ev.neg c' (Ev.pos (by omega) (go 0))
theorem implRow_loop (w l : List Int) (hw : w.length = l.length) (hs : w.length ≤ 5) : ∀ (d i : Nat) (acc : List Int), i + d = w.length → acc.length ≤ i → Ev (fun k => impl_RowOf.l0 k w l (w.length : Int) (i : Int) acc) (acc ++ rowM (w.drop i) (l.drop i), true) := by
  intro d
  induction d with
  | zero =>
    intro i acc hi ha
    rw [List.drop_of_length_le (by omega)]
    exact Ev.step (fun k => impl_RowOf.l0.eq_2 _ _ _ _ _ _) (Ev.neg (by omega) (Ev.is (by simp [rowM])))
  | succ d ih =>
    intro i acc hi ha
    have go : ∀ z : Int, Ev (fun k => impl_RowOf.l0 k w l (w.length : Int) ((i + 1 : Nat) : Int) (acc ++ [z])) (acc ++ z :: rowM (w.drop (i + 1)) (l.drop (i + 1)), true) := fun z => by
      have := ih (i + 1) (acc ++ [z]) (by omega) (by rw [List.length_append, List.length_singleton]; omega)
      rw [List.append_assoc] at this
      exact this
    refine Ev.step (fun k => impl_RowOf.l0.eq_2 _ _ _ _ _ _) (Ev.pos (by omega) (Ev.pos (by omega) (Ev.pos (by omega) (Ev.pos (by omega) ?_))))
    rw [rdN, rdN, wrapS (n := i) (Nat.le_refl _) (by omega), drop_cons w 0 i (by omega), drop_cons l 0 i (by omega), rowM_cons]
    unfold sgM
    by_cases c : w.getD i 0 < l.getD i 0
    · rw [if_pos c]; exact Ev.pos c (Ev.pos (by omega) (go 1))
    · rw [if_neg c]
      refine Ev.neg c ?_
      by_cases c' : w.getD i 0 > l.getD i 0
      · rw [if_pos c']; exact Ev.pos c' (Ev.pos (by omega) (go (-1)))
      · rw [if_neg c']; exact Ev.neg c' (Ev.pos (by omega) (go 0))
theorem specRowOf_ev (w l : List Int) (hw : w.length = 5) (hl : l.length = 5) : Ev (fun k => spec_RowOf.f k w l) (rowM w l, true) := by
  unfold spec_RowOf.f
  have := specRow_loop w l (by omega) (by omega) w.length 0 [] (by omega) (by simp)
  rw [List.drop_zero, List.drop_zero, List.nil_append] at this
  refine Ev.pos (by omega) (Ev.bind (l1In_ev _ _ _) ?_)
  rw [decide_eq_true (by omega)]
  exact Ev.step (fun k => spec_RowOf.j0.eq_2 _ _ _ _) (Ev.neg (by simp) this)
theorem implRowOf_ev (w l : List Int) (hw : w.length = 5) (hl : l.length = 5) : Ev (fun k => impl_RowOf.f k w l) (rowM w l, true) := by
  unfold impl_RowOf.f
  have := implRow_loop w l (by omega) (by omega) w.length 0 [] (by omega) (by simp)
  rw [List.drop_zero, List.drop_zero, List.nil_append] at this
  refine Ev.pos (by omega) (Ev.bind (within_ev _ _ _) ?_)
  rw [decide_eq_true (by omega)]
  exact Ev.step (fun k => impl_RowOf.j0.eq_2 _ _ _ _) (Ev.neg (by simp) this)
theorem specCount_loop (r : List Int) (v : Int) (hl : r.length ≤ 1000) : ∀ (d i c : Nat), i + d = r.length → c ≤ i → Ev (fun k => spec_l13Count.l0 k v (c : Int) (i : Int) r) (((c + (r.drop i).count v : Nat)) : Int) := by
  intro d
  induction d with
  | zero =>
    intro i c hi hc
    rw [List.drop_of_length_le (by omega)]
    exact Ev.step (fun k => spec_l13Count.l0.eq_2 _ _ _ _ _) (Ev.neg (by omega) (Ev.is (by simp)))
  | succ d ih =>
    intro i c hi hc
    have hlt : i < r.length := by omega
    refine Ev.step (fun k => spec_l13Count.l0.eq_2 _ _ _ _ _) (Ev.pos (by omega) (Ev.pos (by omega) ?_))
    rw [rdN, wrapS (n := i) (Nat.le_refl _) (by omega), wrapS (n := c) (Nat.le_refl _) (by omega), drop_cons r 0 i hlt, List.count_cons]
    by_cases z : r.getD i 0 = v
    · refine Ev.pos z (Ev.to (ih (i + 1) (c + 1) (by omega) (by omega)) ?_)
      rw [if_pos (beq_iff_eq.2 z)]
      omega
    · refine Ev.neg z (Ev.to (ih (i + 1) c (by omega) (by omega)) ?_)
      rw [if_neg (by rw [beq_iff_eq]; exact z)]
      omega
def triv (r : List Int) : Bool := !decide ((-1 : Int) ∈ r)
theorem isRow_five (r : List Int) (h5 : r.length = 5) (hr : ∀ x ∈ r, -1 ≤ x ∧ x ≤ 1) : isRow r (r.length : Int) = true := by
  unfold isRow
  exact decide_eq_true ⟨hr, by omega, by omega, rfl⟩
theorem specTrivial_ev (r : List Int) (h5 : r.length = 5) (hr : ∀ x ∈ r, -1 ≤ x ∧ x ≤ 1) : Ev (fun k => spec_IsTrivial.f k r) (triv r) := by
  unfold spec_IsTrivial.f spec_l13Count.f triv
  have := specCount_loop r (-1) (by omega) r.length 0 0 (by omega) (by omega)
  rw [List.drop_zero, Nat.zero_add] at this
  refine Ev.bind (specIsRow_ev r _ (by omega)) (Ev.pos (isRow_five r h5 hr) (Ev.bind this (Ev.is ?_)))
  by_cases c : (-1 : Int) ∈ r
  · have h := List.count_pos_iff.2 c
    rw [decide_eq_true c, Bool.not_true, beq_eq_false_iff_ne]
    omega
  · have h := List.count_eq_zero.2 c
    rw [decide_eq_false c, Bool.not_false, beq_iff_eq]
    omega
theorem implTrivial_ev (r : List Int) (h5 : r.length = 5) (hr : ∀ x ∈ r, -1 ≤ x ∧ x ≤ 1) : Ev (fun k => impl_IsTrivial.f k r) (triv r) := by
  unfold impl_IsTrivial.f impl_isAnyRow.f triv
  exact Ev.bind (Ev.bind (implIsRow_ev r _ (by omega)) (Ev.now _)) (Ev.pos (isRow_five r h5 hr) (Ev.bind (intContains_ev r (-1) (by omega)) (Ev.now _)))
abbrev IFt := S166
abbrev IFg := S90
deriving instance DecidableEq for S166
deriving instance DecidableEq for S90
def stressK (f : IFg) : List Int := (spec_StressesOf.f 200 f.f0 f.f1 f.f2).getD []
theorem footings_ev (n : Int) : ∃ L : List IFg, Ev (fun k => spec_FootingsOf.f k n) L ∧ Ev (fun k => impl_FootingsOf.f k n) L ∧ L.length ≤ 1000 ∧
    ∀ f ∈ L, Ev (fun k => spec_StressesOf.f k f.f0 f.f1 f.f2) (stressK f) ∧ Ev (fun k => impl_StressesOf.f k f.f0 f.f1 f.f2) (stressK f) ∧ (stressK f).length ≤ 1000 := by
  by_cases h : 1 ≤ n ∧ n ≤ 4
  · have key : ∀ n : Int, spec_FootingsOf.f 2000 n = impl_FootingsOf.f 2000 n → (match impl_FootingsOf.f 2000 n with | some L => decide (L.length ≤ 1000) && L.all (fun f => decide (spec_StressesOf.f 200 f.f0 f.f1 f.f2 = some (stressK f)) && decide (impl_StressesOf.f 200 f.f0 f.f1 f.f2 = some (stressK f)) && decide ((stressK f).length ≤ 1000)) | none => false) = true →
        ∃ L : List IFg, Ev (fun k => spec_FootingsOf.f k n) L ∧ Ev (fun k => impl_FootingsOf.f k n) L ∧ L.length ≤ 1000 ∧
          ∀ f ∈ L, Ev (fun k => spec_StressesOf.f k f.f0 f.f1 f.f2) (stressK f) ∧ Ev (fun k => impl_StressesOf.f k f.f0 f.f1 f.f2) (stressK f) ∧ (stressK f).length ≤ 1000 := by
      intro n e g
      cases c : impl_FootingsOf.f 2000 n with
      | none => rw [c] at g; exact absurd g (by simp)
      | some L =>
        rw [c] at g e
        simp only [Bool.and_eq_true, decide_eq_true_eq, List.all_eq_true] at g
        exact ⟨L, Ev.of (spec_FootingsOf.mono n) e, Ev.of (impl_FootingsOf.mono n) c, g.1, fun f hf => ⟨Ev.of (spec_StressesOf.mono _ _ _) (g.2 f hf).1.1, Ev.of (impl_StressesOf.mono _ _ _) (g.2 f hf).1.2, (g.2 f hf).2⟩⟩
    have h4 : n = 1 ∨ n = 2 ∨ n = 3 ∨ n = 4 := by omega
    rcases h4 with rfl | rfl | rfl | rfl
    all_goals exact key _ (by decide +kernel) (by decide +kernel)
  · refine ⟨[], ?_, ?_, by simp, fun f hf => by cases hf⟩
    · unfold spec_FootingsOf.f
      exact Ev.bind (Ev.now _) (Ev.bind (l1In_ev _ _ _) (Ev.neg (by simpa using h) (Ev.now _)))
    · unfold impl_FootingsOf.f
      exact Ev.bind (within_ev _ _ _) (Ev.neg (by simpa using h) (Ev.now _))
def feetOk (n : Int) : Int → List IFt → Bool
  | _, [] => true
  | a, x :: xs => decide (1 ≤ x.f1 ∧ x.f1 ≤ 2 ∧ 0 ≤ x.f2 ∧ x.f2 ≤ x.f1 - 1 ∧ a ≤ x.f0 ∧ x.f0 ≤ n - x.f1) && feetOk n (x.f0 + x.f1) xs
theorem feet_no {n a : Int} {x : IFt} {xs : List IFt} (h : ¬ (1 ≤ x.f1 ∧ x.f1 ≤ 2 ∧ 0 ≤ x.f2 ∧ x.f2 ≤ x.f1 - 1 ∧ a ≤ x.f0 ∧ x.f0 ≤ n - x.f1)) : feetOk n a (x :: xs) = false := by
  rw [feetOk, decide_eq_false h]; rfl
theorem feet_yes {n a : Int} {x : IFt} {xs : List IFt} (h : 1 ≤ x.f1 ∧ x.f1 ≤ 2 ∧ 0 ≤ x.f2 ∧ x.f2 ≤ x.f1 - 1 ∧ a ≤ x.f0 ∧ x.f0 ≤ n - x.f1) : feetOk n a (x :: xs) = feetOk n (x.f0 + x.f1) xs := by
  rw [feetOk, decide_eq_true h]; rfl
def isFt (n : Int) (fs : List IFt) (m : Int) : Bool := decide (1 ≤ n ∧ n ≤ 6 ∧ 0 ≤ m ∧ m ≤ (fs.length : Int) - 1) && feetOk n 0 fs
theorem specFt_bad (n : Int) (fs : List IFt) (m : Int) (hl : fs.length ≤ 4611686018427387904) (hh : ¬ (1 ≤ n ∧ n ≤ 6 ∧ 0 ≤ m ∧ m ≤ (fs.length : Int) - 1)) : ∀ (d i : Nat) (a : Int), i + d = fs.length → Ev (fun k => spec_IsFooting.l0 k a (i : Int) n fs m) false := by
  intro d
  induction d with
  | zero =>
    intro i a hi
    refine Ev.step (fun k => spec_IsFooting.l0.eq_2 _ _ _ _ _ _) (Ev.neg (by omega) (Ev.bind (l1In_ev _ _ _) ?_))
    by_cases c : 1 ≤ n ∧ n ≤ 6
    · refine Ev.pos (decide_eq_true c) (Ev.bind (l1In_ev _ _ _) (Ev.is (decide_eq_false ?_)))
      rw [wrapI _ (by omega)]
      omega
    · exact Ev.neg (by simpa using c) (Ev.now _)
  | succ d ih =>
    intro i a hi
    refine Ev.step (fun k => spec_IsFooting.l0.eq_2 _ _ _ _ _ _) (Ev.pos (by omega) (Ev.pos (by omega) ?_))
    rw [wrapS (n := i) (Nat.le_refl _) (by omega)]
    generalize rd_T166 fs (i : Int) = x
    by_cases c1 : x.f0 < a
    · exact Ev.pos c1 (Ev.now _)
    refine Ev.neg c1 (Ev.bind (l1In_ev _ _ _) ?_)
    by_cases c2 : decide (1 ≤ x.f1 ∧ x.f1 ≤ 2) = true
    case neg => exact Ev.neg c2 (Ev.now _)
    refine Ev.pos c2 ?_
    by_cases c3 : wrap64 (x.f0 + x.f1) > n
    · exact Ev.pos c3 (Ev.now _)
    refine Ev.neg c3 ?_
    by_cases c4 : x.f0 > n
    · exact Ev.pos c4 (Ev.now _)
    refine Ev.neg c4 (Ev.bind (l1In_ev _ _ _) ?_)
    by_cases c5 : decide (0 ≤ x.f2 ∧ x.f2 ≤ wrap64 (x.f1 - 1)) = true
    · exact Ev.pos c5 (ih (i + 1) _ (by omega))
    · exact Ev.neg c5 (Ev.now _)
theorem specFt_good (n : Int) (fs : List IFt) (m : Int) (hl : fs.length ≤ 4611686018427387904) (hh : 1 ≤ n ∧ n ≤ 6 ∧ 0 ≤ m ∧ m ≤ (fs.length : Int) - 1) : ∀ (d i : Nat) (a : Int), i + d = fs.length → 0 ≤ a → Ev (fun k => spec_IsFooting.l0 k a (i : Int) n fs m) (feetOk n a (fs.drop i)) := by
  intro d
  induction d with
  | zero =>
    intro i a hi ha
    rw [List.drop_of_length_le (by omega)]
    refine Ev.step (fun k => spec_IsFooting.l0.eq_2 _ _ _ _ _ _) (Ev.neg (by omega) (Ev.bind (l1In_ev _ _ _) (Ev.pos (decide_eq_true ⟨hh.1, hh.2.1⟩) (Ev.bind (l1In_ev _ _ _) (Ev.is ?_)))))
    rw [wrapI _ (by omega)]
    exact decide_eq_true ⟨hh.2.2.1, hh.2.2.2⟩
  | succ d ih =>
    intro i a hi ha
    have hlt : i < fs.length := by omega
    refine Ev.step (fun k => spec_IsFooting.l0.eq_2 _ _ _ _ _ _) (Ev.pos (by omega) (Ev.pos (by omega) ?_))
    rw [wrapS (n := i) (Nat.le_refl _) (by omega), show rd_T166 fs (i : Int) = fs.getD i z166 from rfl, drop_cons fs z166 i hlt]
    generalize fs.getD i z166 = x
    by_cases c1 : x.f0 < a
    · rw [feet_no (by omega)]; exact Ev.pos c1 (Ev.now _)
    refine Ev.neg c1 (Ev.bind (l1In_ev _ _ _) ?_)
    by_cases c2 : 1 ≤ x.f1 ∧ x.f1 ≤ 2
    case neg => rw [feet_no (fun h => c2 ⟨h.1, h.2.1⟩)]; exact Ev.neg (by simpa using c2) (Ev.now _)
    refine Ev.pos (decide_eq_true c2) ?_
    by_cases c4 : x.f0 > n - x.f1
    · rw [feet_no (by omega)]
      by_cases c3 : wrap64 (x.f0 + x.f1) > n
      · exact Ev.pos c3 (Ev.now _)
      refine Ev.neg c3 ?_
      by_cases c5 : x.f0 > n
      · exact Ev.pos c5 (Ev.now _)
      · exact absurd c3 (by rw [wrapI _ (by omega)]; omega)
    rw [wrapI (x.f0 + x.f1) (by omega), wrapI (x.f1 - 1) (by omega)]
    refine Ev.neg (by omega) (Ev.neg (by omega) (Ev.bind (l1In_ev _ _ _) ?_))
    by_cases c5 : 0 ≤ x.f2 ∧ x.f2 ≤ x.f1 - 1
    · rw [feet_yes (show 1 ≤ x.f1 ∧ x.f1 ≤ 2 ∧ 0 ≤ x.f2 ∧ x.f2 ≤ x.f1 - 1 ∧ a ≤ x.f0 ∧ x.f0 ≤ n - x.f1 from ⟨c2.1, c2.2, c5.1, c5.2, by omega, by omega⟩)]
      exact Ev.pos (decide_eq_true c5) (ih (i + 1) _ (by omega) (by omega))
    · rw [feet_no (fun h => c5 ⟨h.2.2.1, h.2.2.2.1⟩)]
      exact Ev.neg (by simpa using c5) (Ev.now _)
theorem specIsFooting_ev (n : Int) (fs : List IFt) (m : Int) (hl : fs.length ≤ 4611686018427387904) : Ev (fun k => spec_IsFooting.f k n fs m) (isFt n fs m) := by
  unfold spec_IsFooting.f isFt
  by_cases c : 1 ≤ n ∧ n ≤ 6 ∧ 0 ≤ m ∧ m ≤ (fs.length : Int) - 1
  · rw [decide_eq_true c, Bool.true_and]
    have := specFt_good n fs m hl c fs.length 0 0 (by omega) (by omega)
    rwa [List.drop_zero] at this
  · rw [decide_eq_false c, Bool.false_and]
    exact specFt_bad n fs m hl c fs.length 0 0 (by omega)
theorem implFt_loop (n : Int) (fs : List IFt) (m : Int) (hl : fs.length ≤ 4611686018427387904) (hn : 1 ≤ n ∧ n ≤ 6) : ∀ (d i : Nat) (a : Int), i + d = fs.length → 0 ≤ a → Ev (fun k => impl_IsFooting.l0 k a fs (fs.length : Int) (i : Int) n fs m) (feetOk n a (fs.drop i)) := by
  intro d
  induction d with
  | zero =>
    intro i a hi ha
    rw [List.drop_of_length_le (by omega)]
    exact Ev.step (fun k => impl_IsFooting.l0.eq_2 _ _ _ _ _ _ _ _) (Ev.neg (by omega) (Ev.now _))
  | succ d ih =>
    intro i a hi ha
    have hlt : i < fs.length := by omega
    refine Ev.step (fun k => impl_IsFooting.l0.eq_2 _ _ _ _ _ _ _ _) (Ev.pos (by omega) (Ev.pos (by omega) (Ev.pos (by omega) ?_)))
    rw [wrapS (n := i) (Nat.le_refl _) (by omega), show rd_T166 fs (i : Int) = fs.getD i z166 from rfl, drop_cons fs z166 i hlt]
    generalize fs.getD i z166 = x
    refine Ev.bind (within_ev _ _ _) ?_
    by_cases c2 : 1 ≤ x.f1 ∧ x.f1 ≤ 2
    case neg => rw [feet_no (fun h => c2 ⟨h.1, h.2.1⟩)]; exact Ev.neg (by simpa using c2) (Ev.now _)
    rw [wrapI (x.f1 - 1) (by omega), wrapI (n - x.f1) (by omega)]
    refine Ev.pos (decide_eq_true c2) (Ev.bind (within_ev _ _ _) ?_)
    by_cases c5 : 0 ≤ x.f2 ∧ x.f2 ≤ x.f1 - 1
    case neg => rw [feet_no (fun h => c5 ⟨h.2.2.1, h.2.2.2.1⟩)]; exact Ev.neg (by simpa using c5) (Ev.now _)
    refine Ev.pos (decide_eq_true c5) (Ev.bind (within_ev _ _ _) ?_)
    by_cases c1 : a ≤ x.f0 ∧ x.f0 ≤ n - x.f1
    · rw [feet_yes (show 1 ≤ x.f1 ∧ x.f1 ≤ 2 ∧ 0 ≤ x.f2 ∧ x.f2 ≤ x.f1 - 1 ∧ a ≤ x.f0 ∧ x.f0 ≤ n - x.f1 from ⟨c2.1, c2.2, c5.1, c5.2, c1.1, c1.2⟩)]
      refine Ev.pos (decide_eq_true c1) ?_
      rw [wrapI (x.f0 + x.f1) (by omega)]
      exact ih (i + 1) _ (by omega) (by omega)
    · rw [feet_no (fun h => c1 ⟨h.2.2.2.2.1, h.2.2.2.2.2⟩)]
      exact Ev.neg (by simpa using c1) (Ev.now _)
theorem implIsFooting_ev (n : Int) (fs : List IFt) (m : Int) (hl : fs.length ≤ 4611686018427387904) : Ev (fun k => impl_IsFooting.f k n fs m) (isFt n fs m) := by
  unfold impl_IsFooting.f isFt
  have jt : Ev (fun k => impl_IsFooting.j0 k true n fs m) false := Ev.step (fun k => impl_IsFooting.j0.eq_2 _ _ _ _ _) (Ev.pos rfl (Ev.now _))
  refine Ev.bind (within_ev _ _ _) ?_
  by_cases c : 1 ≤ n ∧ n ≤ 6
  · refine Ev.pos (decide_eq_true c) (Ev.bind (within_ev _ _ _) ?_)
    rw [wrapI _ (by omega)]
    by_cases c' : 0 ≤ m ∧ m ≤ (fs.length : Int) - 1
    · rw [decide_eq_true c', decide_eq_true (show 1 ≤ n ∧ n ≤ 6 ∧ 0 ≤ m ∧ m ≤ (fs.length : Int) - 1 from ⟨c.1, c.2, c'.1, c'.2⟩), Bool.true_and]
      have := implFt_loop n fs m hl c fs.length 0 0 (by omega) (by omega)
      rw [List.drop_zero] at this
      exact Ev.step (fun k => impl_IsFooting.j0.eq_2 _ _ _ _ _) (Ev.neg (by simp) this)
    · rw [decide_eq_false c', decide_eq_false (fun h => c' ⟨h.2.2.1, h.2.2.2⟩), Bool.false_and]
      exact jt
  · have e : decide (1 ≤ n ∧ n ≤ 6 ∧ 0 ≤ m ∧ m ≤ (fs.length : Int) - 1) = false := decide_eq_false (fun h => c ⟨h.1, h.2.1⟩)
    rw [e, Bool.false_and]
    exact Ev.neg (by simpa using c) jt
def strL (m : Int) : List IFt → Nat → List Int → List Int
  | [], _, acc => acc
  | x :: xs, i, acc => strL m xs (i + 1) (if (i : Int) = m then (acc.set (x.f0 + x.f2).toNat 1).set (x.f0 + x.f2).toNat 2 else acc.set (x.f0 + x.f2).toNat 1)
theorem strL_length (m : Int) : ∀ (fs : List IFt) (i : Nat) (acc : List Int), (strL m fs i acc).length = acc.length
  | [], _, _ => rfl
  | x :: xs, i, acc => by
    rw [strL, strL_length m xs]
    by_cases c : (i : Int) = m
    · rw [if_pos c, List.length_set, List.length_set]
    · rw [if_neg c, List.length_set]
theorem specStr_loop (n : Int) (fs : List IFt) (m : Int) (hl : fs.length ≤ 4611686018427387904) (hn : 1 ≤ n ∧ n ≤ 6) : ∀ (d i : Nat) (a : Int) (acc : List Int), i + d = fs.length → 0 ≤ a → feetOk n a (fs.drop i) = true → (acc.length : Int) = n → Ev (fun k => spec_StressesOf.l0 k acc (i : Int) n fs m) (strL m (fs.drop i) i acc) := by
  intro d
  induction d with
  | zero =>
    intro i a acc hi ha hf hc
    rw [List.drop_of_length_le (by omega)]
    exact Ev.step (fun k => spec_StressesOf.l0.eq_2 _ _ _ _ _ _) (Ev.neg (by omega) (Ev.now _))
  | succ d ih =>
    intro i a acc hi ha hf hc
    have hlt : i < fs.length := by omega
    rw [drop_cons fs z166 i hlt, feetOk, Bool.and_eq_true, decide_eq_true_eq] at hf
    obtain ⟨hx, hf⟩ := hf
    refine Ev.step (fun k => spec_StressesOf.l0.eq_2 _ _ _ _ _ _) (Ev.pos (by omega) (Ev.pos (by omega) ?_))
    rw [wrapS (n := i) (Nat.le_refl _) (by omega), show rd_T166 fs (i : Int) = fs.getD i z166 from rfl, drop_cons fs z166 i hlt, strL]
    generalize fs.getD i z166 = x at *
    rw [wrapI (x.f0 + x.f2) (by omega)]
    refine Ev.pos (by omega) (Ev.pos (by omega) (Ev.bind (Ev.now _) ?_))
    by_cases c : (i : Int) = m
    · rw [if_pos c]
      exact Ev.pos c (ih (i + 1) _ _ (by omega) (by omega) hf (by rw [List.length_set, List.length_set]; exact hc))
    · rw [if_neg c]
      exact Ev.neg c (ih (i + 1) _ _ (by omega) (by omega) hf (by rw [List.length_set]; exact hc))
theorem implStr_loop (n : Int) (fs : List IFt) (m : Int) (hl : fs.length ≤ 4611686018427387904) (hn : 1 ≤ n ∧ n ≤ 6) : ∀ (d i : Nat) (a : Int) (acc : List Int), i + d = fs.length → 0 ≤ a → feetOk n a (fs.drop i) = true → (acc.length : Int) = n → Ev (fun k => impl_StressesOf.l0 k acc fs (fs.length : Int) (i : Int) n fs m) (strL m (fs.drop i) i acc) := by
  intro d
  induction d with
  | zero =>
    intro i a acc hi ha hf hc
    rw [List.drop_of_length_le (by omega)]
    exact Ev.step (fun k => impl_StressesOf.l0.eq_2 _ _ _ _ _ _ _ _) (Ev.neg (by omega) (Ev.now _))
  | succ d ih =>
    intro i a acc hi ha hf hc
    have hlt : i < fs.length := by omega
    rw [drop_cons fs z166 i hlt, feetOk, Bool.and_eq_true, decide_eq_true_eq] at hf
    obtain ⟨hx, hf⟩ := hf
    refine Ev.step (fun k => impl_StressesOf.l0.eq_2 _ _ _ _ _ _ _ _) (Ev.pos (by omega) (Ev.pos (by omega) (Ev.pos (by omega) ?_)))
    rw [wrapS (n := i) (Nat.le_refl _) (by omega), show rd_T166 fs (i : Int) = fs.getD i z166 from rfl, drop_cons fs z166 i hlt, strL]
    generalize fs.getD i z166 = x at *
    rw [wrapI (x.f0 + x.f2) (by omega)]
    refine Ev.pos (by omega) (Ev.pos (by omega) (Ev.bind (Ev.now _) ?_))
    by_cases c : (i : Int) = m
    · rw [if_pos c]
      exact Ev.pos c (ih (i + 1) _ _ (by omega) (by omega) hf (by rw [List.length_set, List.length_set]; exact hc))
    · rw [if_neg c]
      exact Ev.neg c (ih (i + 1) _ _ (by omega) (by omega) hf (by rw [List.length_set]; exact hc))
theorem isFt_split {n : Int} {fs : List IFt} {m : Int} (h : isFt n fs m = true) : (1 ≤ n ∧ n ≤ 6) ∧ (0 ≤ m ∧ m ≤ (fs.length : Int) - 1) ∧ feetOk n 0 fs = true := by
  unfold isFt at h
  rw [Bool.and_eq_true, decide_eq_true_eq] at h
  exact ⟨⟨h.1.1, h.1.2.1⟩, h.1.2.2, h.2⟩
def stress (n : Int) (fs : List IFt) (m : Int) : List Int := strL m fs 0 (List.replicate n.toNat 0)
theorem stress_length (n : Int) (fs : List IFt) (m : Int) : (stress n fs m).length = n.toNat := by
  unfold stress
  rw [strL_length, List.length_replicate]
theorem specStresses_ev (n : Int) (fs : List IFt) (m : Int) (hl : fs.length ≤ 4611686018427387904) (h : isFt n fs m = true) : Ev (fun k => spec_StressesOf.f k n fs m) (stress n fs m) := by
  obtain ⟨h1, h2, h3⟩ := isFt_split h
  unfold spec_StressesOf.f stress
  have := specStr_loop n fs m hl h1 fs.length 0 0 (List.replicate n.toNat 0) (by omega) (by omega) h3 (by rw [List.length_replicate]; omega)
  rw [List.drop_zero] at this
  exact Ev.bind (specIsFooting_ev n fs m hl) (Ev.pos h (Ev.pos (by omega) (Ev.pos (by omega) this)))
theorem implStresses_ev (n : Int) (fs : List IFt) (m : Int) (hl : fs.length ≤ 4611686018427387904) (h : isFt n fs m = true) : Ev (fun k => impl_StressesOf.f k n fs m) (stress n fs m) := by
  obtain ⟨h1, h2, h3⟩ := isFt_split h
  unfold impl_StressesOf.f stress
  have := implStr_loop n fs m hl h1 fs.length 0 0 (List.replicate n.toNat 0) (by omega) (by omega) h3 (by rw [List.length_replicate]; omega)
  rw [List.drop_zero] at this
  exact Ev.bind (implIsFooting_ev n fs m hl) (Ev.pos h (Ev.pos (by omega) (Ev.pos (by omega) this)))
def mkL : List IFt → List Int → List Int
  | [], acc => acc
  | x :: xs, acc =>
    let y := acc.set (0 : Int).toNat (wrap64 (rd acc 0 - x.f1))
    if x.f1 = 1 then mkL xs (y.set (1 : Int).toNat (wrap64 (rd y 1 + 1))) else if x.f2 = 1 then mkL xs (y.set (2 : Int).toNat (wrap64 (rd y 2 + 1))) else mkL xs (y.set (3 : Int).toNat (wrap64 (rd y 3 + 1)))
theorem mkL_length : ∀ (fs : List IFt) (acc : List Int), (mkL fs acc).length = acc.length
  | [], _ => rfl
  | x :: xs, acc => by
    rw [mkL]
    by_cases c : x.f1 = 1
    · simp only [if_pos c, mkL_length xs, List.length_set]
    · by_cases c' : x.f2 = 1
      · simp only [if_neg c, if_pos c', mkL_length xs, List.length_set]
      · simp only [if_neg c, if_neg c', mkL_length xs, List.length_set]
theorem specMk_loop (n : Int) (fs : List IFt) (m : Int) (hl : fs.length ≤ 4611686018427387904) : ∀ (d i : Nat) (acc : List Int), i + d = fs.length → acc.length = 6 → Ev (fun k => spec_FootMarks.l0 k acc (i : Int) n fs m) (mkL (fs.drop i) acc) := by
  intro d
  induction d with
  | zero =>
    intro i acc hi hc
    rw [List.drop_of_length_le (by omega)]
    exact Ev.step (fun k => spec_FootMarks.l0.eq_2 _ _ _ _ _ _) (Ev.neg (by omega) (Ev.now _))
  | succ d ih =>
    intro i acc hi hc
    have hlt : i < fs.length := by omega
    refine Ev.step (fun k => spec_FootMarks.l0.eq_2 _ _ _ _ _ _) (Ev.pos (by omega) (Ev.pos (by omega) (Ev.pos (by omega) (Ev.bind (Ev.now _) ?_))))
    rw [wrapS (n := i) (Nat.le_refl _) (by omega), show rd_T166 fs (i : Int) = fs.getD i z166 from rfl, drop_cons fs z166 i hlt, mkL]
    generalize fs.getD i z166 = x
    by_cases c : x.f1 = 1
    · rw [if_pos c]
      exact Ev.pos c (Ev.pos (by omega) (ih (i + 1) _ (by omega) (by rw [List.length_set, List.length_set]; exact hc)))
    · rw [if_neg c]
      refine Ev.neg c ?_
      by_cases c' : x.f2 = 1
      · rw [if_pos c']
        exact Ev.pos c' (Ev.pos (by omega) (ih (i + 1) _ (by omega) (by rw [List.length_set, List.length_set]; exact hc)))
      · rw [if_neg c']
        exact Ev.neg c' (Ev.pos (by omega) (ih (i + 1) _ (by omega) (by rw [List.length_set, List.length_set]; exact hc)))
theorem implMk_loop (fs : List IFt) (hl : fs.length ≤ 4611686018427387904) : ∀ (d i : Nat) (acc : List Int), i + d = fs.length → acc.length = 6 → Ev (fun k => impl_FootMarks.l0 k acc fs (fs.length : Int) (i : Int)) (mkL (fs.drop i) acc) := by
  intro d
  induction d with
  | zero =>
    intro i acc hi hc
    rw [List.drop_of_length_le (by omega)]
    exact Ev.step (fun k => impl_FootMarks.l0.eq_2 _ _ _ _ _) (Ev.neg (by omega) (Ev.now _))
  | succ d ih =>
    intro i acc hi hc
    have hlt : i < fs.length := by omega
    refine Ev.step (fun k => impl_FootMarks.l0.eq_2 _ _ _ _ _) (Ev.pos (by omega) (Ev.pos (by omega) (Ev.pos (by omega) (Ev.pos (by omega) (Ev.bind (Ev.now _) ?_)))))
    rw [wrapS (n := i) (Nat.le_refl _) (by omega), show rd_T166 fs (i : Int) = fs.getD i z166 from rfl, drop_cons fs z166 i hlt, mkL]
    generalize fs.getD i z166 = x
    by_cases c : x.f1 = 1
    · rw [if_pos c]
      exact Ev.pos c (Ev.pos (by omega) (ih (i + 1) _ (by omega) (by rw [List.length_set, List.length_set]; exact hc)))
    · rw [if_neg c]
      refine Ev.neg c ?_
      by_cases c' : x.f2 = 1
      · rw [if_pos c']
        exact Ev.pos c' (Ev.pos (by omega) (ih (i + 1) _ (by omega) (by rw [List.length_set, List.length_set]; exact hc)))
      · rw [if_neg c']
        exact Ev.neg c' (Ev.pos (by omega) (ih (i + 1) _ (by omega) (by rw [List.length_set, List.length_set]; exact hc)))
def footMk (n : Int) (fs : List IFt) (m : Int) : List Int := mkL fs [n, 0, 0, 0, (rd_T166 fs 0).f0, wrap64 ((wrap64 (n - (rd_T166 fs m).f0)) - (rd_T166 fs m).f1)]
theorem footMk_length (n : Int) (fs : List IFt) (m : Int) : (footMk n fs m).length = 6 := by
  unfold footMk
  rw [mkL_length]; rfl
theorem specFootMarks_ev (n : Int) (fs : List IFt) (m : Int) (hl : fs.length ≤ 4611686018427387904) (h : isFt n fs m = true) : Ev (fun k => spec_FootMarks.f k n fs m) (footMk n fs m) := by
  obtain ⟨h1, h2, h3⟩ := isFt_split h
  have h4 : ∃ k : Nat, True := ⟨0, trivial⟩
  unfold spec_FootMarks.f
  have := specMk_loop n fs m hl fs.length 0 [n, 0, 0, 0, (rd_T166 fs 0).f0, wrap64 ((wrap64 (n - (rd_T166 fs m).f0)) - (rd_T166 fs m).f1)] (by omega) rfl
  rw [List.drop_zero] at this
  exact Ev.bind (specIsFooting_ev n fs m hl) (Ev.pos h (Ev.pos (by omega) (Ev.pos (by omega) (Ev.pos (by omega) this))))
theorem implFootMarks_ev (n : Int) (fs : List IFt) (m : Int) (hl : fs.length ≤ 4611686018427387904) (h : isFt n fs m = true) : Ev (fun k => impl_FootMarks.f k n fs m) (footMk n fs m) := by
  obtain ⟨h1, h2, h3⟩ := isFt_split h
  unfold impl_FootMarks.f
  have := implMk_loop fs hl fs.length 0 [n, 0, 0, 0, (rd_T166 fs 0).f0, wrap64 ((wrap64 (n - (rd_T166 fs m).f0)) - (rd_T166 fs m).f1)] (by omega) rfl
  rw [List.drop_zero] at this
  exact Ev.bind (implIsFooting_ev n fs m hl) (Ev.pos h (Ev.pos (by omega) (Ev.pos (by omega) (Ev.pos (by omega) this))))
theorem eqIntS_loop (xs ys : List Int) (hl : xs.length = ys.length) (hn : xs.length ≤ 4611686018427387904) : ∀ (d i : Nat), i + d = xs.length →
    Ev (fun k => laws_eqIntS.l0 k xs ys (i : Int)) (decide (xs.drop i = ys.drop i)) := by
  intro d
  induction d with
  | zero =>
    intro i hi
    refine Ev.step (fun k => laws_eqIntS.l0.eq_2 _ _ _ _) ?_
    refine Ev.neg (by omega) (Ev.is ?_)
    rw [List.drop_of_length_le (by omega), List.drop_of_length_le (by omega)]
    rfl
  | succ d ih =>
    intro i hi
    have hlt : i < xs.length := by omega
    refine Ev.step (fun k => laws_eqIntS.l0.eq_2 _ _ _ _) ?_
    refine Ev.pos (by omega) (Ev.pos (by omega) (Ev.pos (by omega) ?_))
    rw [wrapS (Nat.le_of_lt hlt) hn, rdN, rdN, drop_cons xs 0 i hlt, drop_cons ys 0 i (by omega)]
    by_cases e : xs.getD i 0 = ys.getD i 0
    · refine Ev.pos e (Ev.to (ih (i + 1) (by omega)) ?_)
      rw [e]
      exact decide_eq_decide.2 ⟨fun h => by rw [h], fun h => (List.cons.inj h).2⟩
    · exact Ev.neg e (Ev.is (decide_eq_false (fun h => e (List.cons.inj h).1)).symm)
theorem eqIntS_ev (xs ys : List Int) (hn : xs.length ≤ 4611686018427387904) : Ev (fun k => laws_eqIntS.f k xs ys) (decide (xs = ys)) := by
  unfold laws_eqIntS.f
  by_cases e : xs.length = ys.length
  · exact Ev.pos (by omega) (eqIntS_loop xs ys e hn xs.length 0 (by omega))
  · refine Ev.neg (by omega) (Ev.is ?_)
    have : ¬ xs = ys := fun h => e (by rw [h])
    simp [this]
abbrev IRw := S34
deriving instance DecidableEq for S34
theorem eqRow_ev (a b : IRw) (hn : a.f0.length ≤ 4611686018427387904) : Ev (fun k => laws_eqRow.f k a.f0 b.f0) (decide (a = b)) := by
  unfold laws_eqRow.f
  refine Ev.bind (eqIntS_ev _ _ hn) ?_
  obtain ⟨a0⟩ := a
  obtain ⟨b0⟩ := b
  by_cases c : a0 = b0
  · exact Ev.pos (decide_eq_true c) (Ev.is (decide_eq_true (by rw [c])).symm)
  · exact Ev.neg (by simpa using c) (Ev.is (decide_eq_false (fun h => c (by injection h))).symm)
theorem eqRowS_ev (xs ys : List IRw) (hn : xs.length ≤ 4611686018427387904) (hy : ∀ y ∈ xs, y.f0.length ≤ 4611686018427387904) : Ev (fun k => laws_eqRowS.f k xs ys) (decide (xs = ys)) :=
  eq_slice _ (fun k i => laws_eqRowS.l0 k xs ys i) xs ys (fun _ => rfl)
    (fun e => eq_loop _ (fun k a b => laws_eqRow.f k a.f0 b.f0) xs ys z34 e hn (fun k i => laws_eqRowS.l0.eq_2 _ _ _ _) (fun a ha b _ => eqRow_ev a b (hy a ha)) xs.length 0 (by omega))
theorem l5Same_ev (xs ys : List Int) (hn : xs.length ≤ 4611686018427387904) : Ev (fun k => spec_l5Same.f k xs ys) (decide (xs = ys)) := by
  unfold spec_l5Same.f
  by_cases e : xs.length = ys.length
  · refine Ev.pos (by omega) (all_loop (fun k i => spec_l5Same.l0 k xs ys i) xs.length (fun j => xs.getD j 0 = ys.getD j 0) true (fun i hi r h h' => ?_) (Ev.step (fun k => spec_l5Same.l0.eq_2 _ _ _ _) (Ev.neg (by omega) (Ev.now _))) xs.length 0 (by omega) _ ?_)
    · refine Ev.step (fun k => spec_l5Same.l0.eq_2 _ _ _ _) (Ev.pos (by omega) (Ev.pos (by omega) (Ev.pos (by omega) ?_)))
      rw [wrapS (Nat.le_of_lt hi) hn, rdN, rdN]
      by_cases c : xs.getD i 0 = ys.getD i 0
      · exact Ev.pos c (h c)
      · exact Ev.neg c (Ev.is (h' c).symm)
    · simpa using (list_eq_iff xs ys 0 e).symm
  · refine Ev.neg (by omega) (Ev.is (decide_eq_false (fun h => e (by rw [h]))).symm)
theorem slicesEqual_ev (xs ys : List Int) (hn : xs.length ≤ 4611686018427387904) : Ev (fun k => slices_Equal_int_int.f k xs ys) (decide (xs = ys)) := by
  unfold slices_Equal_int_int.f
  by_cases e : xs.length = ys.length
  · refine Ev.pos (by omega) (all_loop (fun k i => slices_Equal_int_int.l0 k xs ys (xs.length : Int) i) xs.length (fun j => xs.getD j 0 = ys.getD j 0) true (fun i hi r h h' => ?_) (Ev.step (fun k => slices_Equal_int_int.l0.eq_2 _ _ _ _ _) (Ev.neg (by omega) (Ev.now _))) xs.length 0 (by omega) _ ?_)
    · refine Ev.step (fun k => slices_Equal_int_int.l0.eq_2 _ _ _ _ _) (Ev.pos (by omega) (Ev.pos (by omega) (Ev.pos (by omega) (Ev.pos (by omega) ?_))))
      rw [wrapS (Nat.le_of_lt hi) hn, rdN, rdN]
      by_cases c : xs.getD i 0 = ys.getD i 0
      · exact Ev.pos c (h c)
      · exact Ev.neg c (Ev.is (h' c).symm)
    · simpa using (list_eq_iff xs ys 0 e).symm
  · refine Ev.neg (by omega) (Ev.is (decide_eq_false (fun h => e (by rw [h]))).symm)
def agS (p : List Int) : List (List Int) → List IRw → List IRw
  | [], out => out
  | q :: qs, out => agS p qs (if (triv (rowM p q) || decide ((⟨rowM p q⟩ : IRw) ∈ out)) = true then out else out ++ [⟨rowM p q⟩])
theorem agS_small (p : List Int) (hp : p.length = 5) : ∀ (qs : List (List Int)) (out : List IRw), (∀ q ∈ qs, q.length = 5) → (∀ y ∈ out, y.f0.length ≤ 5) → (agS p qs out).length ≤ out.length + qs.length ∧ ∀ y ∈ agS p qs out, y.f0.length ≤ 5
  | [], out, _, hy => ⟨by rw [agS]; simp, by rw [agS]; exact hy⟩
  | q :: qs, out, hq, hy => by
    have h5 := hq q (List.mem_cons_self ..)
    rw [agS, List.length_cons]
    by_cases c : (triv (rowM p q) || decide ((⟨rowM p q⟩ : IRw) ∈ out)) = true
    · rw [if_pos c]
      obtain ⟨h1, h2⟩ := agS_small p hp qs out (fun z h => hq z (List.mem_cons_of_mem _ h)) hy
      exact ⟨by omega, h2⟩
    · rw [if_neg c]
      obtain ⟨h1, h2⟩ := agS_small p hp qs (out ++ [⟨rowM p q⟩]) (fun z h => hq z (List.mem_cons_of_mem _ h)) (fun y h => by
        rcases List.mem_append.1 h with h | h
        · exact hy y h
        · rw [List.mem_singleton.1 h]
          show (rowM p q).length ≤ 5
          rw [rowM_length _ _ (by omega)]; omega)
      rw [List.length_append, List.length_singleton] at h1
      exact ⟨by omega, h2⟩
def prof (f : IFg) : List Int := (footMk f.f0 f.f1 f.f2).take (5 : Int).toNat
theorem prof_length (f : IFg) : (prof f).length = 5 := by
  unfold prof
  rw [List.length_take, footMk_length]; rfl
theorem specMarks_ev (n : Int) (fs : List IFt) (m : Int) (hl : fs.length ≤ 4611686018427387904) (h : isFt n fs m = true) : Ev (fun k => spec_l23Marks.f k n fs m) (prof ⟨n, fs, m⟩) := by
  unfold spec_l23Marks.f
  exact Ev.bind (specFootMarks_ev n fs m hl h) (Ev.pos (by rw [footMk_length]; omega) (Ev.now _))
theorem implMarks_ev (n : Int) (fs : List IFt) (m : Int) (hl : fs.length ≤ 4611686018427387904) (h : isFt n fs m = true) : Ev (fun k => impl_footProfile.f k n fs m) (prof ⟨n, fs, m⟩) := by
  unfold impl_footProfile.f
  exact Ev.bind (implFootMarks_ev n fs m hl h) (Ev.pos (by rw [footMk_length]; omega) (Ev.now _))
theorem footingsOk_ev (n : Int) (h : 1 ≤ n ∧ n ≤ 4) : ∃ L : List IFg, Ev (fun k => spec_FootingsOf.f k n) L ∧ Ev (fun k => impl_FootingsOf.f k n) L ∧ L.length ≤ 1000 ∧ ∀ f ∈ L, f.f1.length ≤ 1000 ∧ isFt f.f0 f.f1 f.f2 = true := by
  have key : ∀ n : Int, spec_FootingsOf.f 2000 n = impl_FootingsOf.f 2000 n → (match impl_FootingsOf.f 2000 n with | some L => decide (L.length ≤ 1000) && L.all (fun f => decide (f.f1.length ≤ 1000) && isFt f.f0 f.f1 f.f2) | none => false) = true →
      ∃ L : List IFg, Ev (fun k => spec_FootingsOf.f k n) L ∧ Ev (fun k => impl_FootingsOf.f k n) L ∧ L.length ≤ 1000 ∧ ∀ f ∈ L, f.f1.length ≤ 1000 ∧ isFt f.f0 f.f1 f.f2 = true := by
    intro n e g
    cases c : impl_FootingsOf.f 2000 n with
    | none => rw [c] at g; exact absurd g (by simp)
    | some L =>
      rw [c] at g e
      simp only [Bool.and_eq_true, decide_eq_true_eq, List.all_eq_true] at g
      exact ⟨L, Ev.of (spec_FootingsOf.mono n) e, Ev.of (impl_FootingsOf.mono n) c, g.1, g.2⟩
  have h4 : n = 1 ∨ n = 2 ∨ n = 3 ∨ n = 4 := by omega
  rcases h4 with rfl | rfl | rfl | rfl
  all_goals exact key _ (by decide +kernel) (by decide +kernel)
theorem mem_row (r : List Int) (x : IRw) (l : List IRw) : decide ((⟨r⟩ : IRw) ∈ x :: l) = (decide (x.f0 = r) || decide ((⟨r⟩ : IRw) ∈ l)) := by
  obtain ⟨x0⟩ := x
  rw [Bool.eq_iff_iff, Bool.or_eq_true, decide_eq_true_eq, decide_eq_true_eq, decide_eq_true_eq, List.mem_cons]
  exact ⟨fun h => h.imp (fun h => by injection h with h; exact h.symm) id, fun h => h.imp (fun h => by show (⟨r⟩ : IRw) = ⟨x0⟩; rw [show x0 = r from h]) id⟩
theorem specFound (out : List IRw) (L : List IFg) (i : Nat) (n : Int) (fs : List IFt) (m : Int) (r : List Int) (res : List IRw × Bool) (ho : out.length ≤ 1000) (hy : ∀ y ∈ out, y.f0.length ≤ 5) : ∀ (d j : Nat) (f : Bool), j + d = out.length →
    ((f || decide ((⟨r⟩ : IRw) ∈ out.drop j)) = true → Ev (fun k => spec_FootRows.l0 k out L (wrap64 ((i : Int) + 1)) n fs m) res) → ((f || decide ((⟨r⟩ : IRw) ∈ out.drop j)) = false → Ev (fun k => spec_FootRows.l0 k (out ++ [(⟨r⟩ : IRw)]) L (wrap64 ((i : Int) + 1)) n fs m) res) →
    Ev (fun k => spec_FootRows.l1 k out L (i : Int) f (j : Int) n fs m r) res := by
  intro d
  induction d with
  | zero =>
    intro j f hj h1 h2
    have e : (f || decide ((⟨r⟩ : IRw) ∈ out.drop j)) = f := by rw [List.drop_of_length_le (by omega)]; simp
    rw [e] at h1 h2
    refine Ev.step (fun k => spec_FootRows.l1.eq_2 _ _ _ _ _ _ _ _ _ _) (Ev.neg (by omega) ?_)
    cases f with
    | true => exact Ev.pos rfl (h1 rfl)
    | false => exact Ev.neg (by simp) (Ev.pos (by omega) (h2 rfl))
  | succ d ih =>
    intro j f hj h1 h2
    have hlt : j < out.length := by omega
    have e : decide ((⟨r⟩ : IRw) ∈ out.drop j) = (decide ((out.getD j z34).f0 = r) || decide ((⟨r⟩ : IRw) ∈ out.drop (j + 1))) := by rw [drop_cons out z34 j hlt, mem_row]
    rw [e] at h1 h2
    refine Ev.step (fun k => spec_FootRows.l1.eq_2 _ _ _ _ _ _ _ _ _ _) (Ev.pos (by omega) ?_)
    rw [wrapS (n := j) (Nat.le_refl _) (by omega)]
    cases f with
    | true => exact Ev.pos rfl (ih (j + 1) true (by omega) (fun _ => h1 (by simp)) (fun h => by simp at h))
    | false =>
      refine Ev.neg (by simp) (Ev.pos (by omega) ?_)
      rw [show rd_T34 out (j : Int) = out.getD j z34 from rfl]
      unfold spec_l13Same.f
      refine Ev.bind (Ev.bind (l5Same_ev _ _ (by have := hy _ (mem_getD out z34 j hlt); omega)) (Ev.now _)) (ih (j + 1) _ (by omega) ?_ ?_)
      · exact fun h => h1 (by rw [Bool.false_or]; exact h)
      · exact fun h => h2 (by rw [Bool.false_or]; exact h)
theorem implHas_loop (xs : List IRw) (r : List Int) (hn : xs.length ≤ 1000) (hy : ∀ y ∈ xs, y.f0.length ≤ 5) : ∀ (d i : Nat), i + d = xs.length → ∃ q, Ev (fun k => v_slices_IndexFunc__hasRow_1.l0 k xs [(⟨r⟩ : IRw)] (xs.length : Int) (i : Int)) q ∧ decide (0 ≤ q) = decide ((⟨r⟩ : IRw) ∈ xs.drop i) := by
  intro d
  induction d with
  | zero =>
    intro i hi
    refine ⟨-1, Ev.step (fun k => v_slices_IndexFunc__hasRow_1.l0.eq_2 _ _ _ _ _) (Ev.neg (by omega) (Ev.now _)), ?_⟩
    rw [List.drop_of_length_le (by omega)]
    simp
  | succ d ih =>
    intro i hi
    have hlt : i < xs.length := by omega
    have hf : Ev (fun k => impl_hasRow_1.f k (xs.getD i z34).f0 [(⟨r⟩ : IRw)]) (decide ((xs.getD i z34).f0 = r)) := by
      unfold impl_hasRow_1.f impl_sameRow.f
      exact Ev.pos (by simp) (Ev.bind (Ev.bind (slicesEqual_ev _ _ (by have := hy _ (mem_getD xs z34 i hlt); omega)) (Ev.now _)) (Ev.now _))
    rw [drop_cons xs z34 i hlt, mem_row]
    by_cases c : (xs.getD i z34).f0 = r
    · refine ⟨(i : Int), Ev.step (fun k => v_slices_IndexFunc__hasRow_1.l0.eq_2 _ _ _ _ _) (Ev.pos (by omega) (Ev.pos (by omega) (Ev.pos (by omega) (Ev.bind hf (Ev.pos (decide_eq_true c) (Ev.now _)))))), ?_⟩
      rw [decide_eq_true c, Bool.true_or, decide_eq_true (by omega)]
    · obtain ⟨q, hq, h⟩ := ih (i + 1) (by omega)
      refine ⟨q, Ev.step (fun k => v_slices_IndexFunc__hasRow_1.l0.eq_2 _ _ _ _ _) (Ev.pos (by omega) (Ev.pos (by omega) (Ev.pos (by omega) (Ev.bind hf (Ev.neg (by simpa using c) ?_))))), ?_⟩
      · rw [wrapS (Nat.le_of_lt hlt) (by omega)]; exact hq
      · rw [decide_eq_false c, Bool.false_or]; exact h
theorem implHasRow_ev (xs : List IRw) (r : List Int) (hn : xs.length ≤ 1000) (hy : ∀ y ∈ xs, y.f0.length ≤ 5) : Ev (fun k => impl_hasRow.f k xs r) (decide ((⟨r⟩ : IRw) ∈ xs)) := by
  obtain ⟨q, hq, h⟩ := implHas_loop xs r hn hy xs.length 0 (by omega)
  rw [List.drop_zero] at h
  unfold impl_hasRow.f v_slices_ContainsFunc__hasRow_1.f v_slices_IndexFunc__hasRow_1.f
  exact Ev.bind (Ev.bind hq (Ev.is h)) (Ev.now _)
theorem specRows_loop (L : List IFg) (hL : L.length ≤ 1000) (hf : ∀ f ∈ L, f.f1.length ≤ 1000 ∧ isFt f.f0 f.f1 f.f2 = true) (n : Int) (fs : List IFt) (m : Int) (hl : fs.length ≤ 4611686018427387904) (h : isFt n fs m = true) : ∀ (d i : Nat) (out : List IRw), i + d = L.length → out.length ≤ i → (∀ y ∈ out, y.f0.length ≤ 5) → Ev (fun k => spec_FootRows.l0 k out L (i : Int) n fs m) (agS (prof ⟨n, fs, m⟩) ((L.drop i).map prof) out, true) := by
  intro d
  induction d with
  | zero =>
    intro i out hi ho hy
    rw [List.drop_of_length_le (by omega)]
    exact Ev.step (fun k => spec_FootRows.l0.eq_2 _ _ _ _ _ _ _) (Ev.neg (by omega) (Ev.now _))
  | succ d ih =>
    intro i out hi ho hy
    have hlt : i < L.length := by omega
    obtain ⟨g1, g2⟩ := hf _ (mem_getD L z90 i hlt)
    refine Ev.step (fun k => spec_FootRows.l0.eq_2 _ _ _ _ _ _ _) (Ev.pos (by omega) (Ev.bind (specMarks_ev n fs m hl h) (Ev.pos (by omega) ?_)))
    rw [show rd_T90 L (i : Int) = L.getD i z90 from rfl, drop_cons L z90 i hlt, List.map_cons, agS]
    generalize L.getD i z90 = g at *
    have p5 := prof_length ⟨n, fs, m⟩
    have q5 := prof_length g
    refine Ev.bind (specMarks_ev g.f0 g.f1 g.f2 (by omega) g2) (Ev.bind (specRowOf_ev _ _ p5 q5) ?_)
    have r5 : (rowM (prof ⟨n, fs, m⟩) (prof g)).length = 5 := by rw [rowM_length _ _ (by omega)]; exact p5
    refine Ev.bind (specTrivial_ev _ r5 (rowM_range _ _)) ?_
    refine specFound out L i n fs m _ _ (by omega) hy out.length 0 _ (by omega) (fun c => ?_) (fun c => ?_)
    · rw [List.drop_zero] at c
      rw [if_pos c, wrapS (n := i) (Nat.le_refl _) (by omega)]
      exact ih (i + 1) out (by omega) (by omega) hy
    · rw [List.drop_zero] at c
      rw [if_neg (by rw [c]; simp), wrapS (n := i) (Nat.le_refl _) (by omega)]
      refine ih (i + 1) _ (by omega) (by rw [List.length_append, List.length_singleton]; omega) (fun y hm => ?_)
      rcases List.mem_append.1 hm with hm | hm
      · exact hy y hm
      · rw [List.mem_singleton.1 hm]
        exact Nat.le_of_eq r5
theorem implProfs_loop (L : List IFg) (hL : L.length ≤ 1000) (hf : ∀ f ∈ L, f.f1.length ≤ 1000 ∧ isFt f.f0 f.f1 f.f2 = true) : ∀ (d i : Nat) (out : List (List Int)), i + d = L.length → out.length ≤ i → Ev (fun k => impl_footProfiles.l0 k out L (L.length : Int) (i : Int)) (out ++ (L.drop i).map prof) := by
  intro d
  induction d with
  | zero =>
    intro i out hi ho
    rw [List.drop_of_length_le (by omega)]
    exact Ev.step (fun k => impl_footProfiles.l0.eq_2 _ _ _ _ _) (Ev.neg (by omega) (Ev.is (by simp)))
  | succ d ih =>
    intro i out hi ho
    have hlt : i < L.length := by omega
    obtain ⟨g1, g2⟩ := hf _ (mem_getD L z90 i hlt)
    refine Ev.step (fun k => impl_footProfiles.l0.eq_2 _ _ _ _ _) (Ev.pos (by omega) (Ev.pos (by omega) (Ev.pos (by omega) ?_)))
    rw [show rd_T90 L (i : Int) = L.getD i z90 from rfl, drop_cons L z90 i hlt, List.map_cons, wrapS (n := i) (Nat.le_refl _) (by omega)]
    generalize L.getD i z90 = g at *
    refine Ev.bind (implMarks_ev g.f0 g.f1 g.f2 (by omega) g2) (Ev.pos (by omega) ?_)
    have := ih (i + 1) (out ++ [prof g]) (by omega) (by rw [List.length_append, List.length_singleton]; omega)
    rw [List.append_assoc] at this
    exact this
theorem implAgainst_loop (p : List Int) (hp : p.length = 5) (Q : List (List Int)) (hQ : Q.length ≤ 1000) (hq : ∀ q ∈ Q, q.length = 5) : ∀ (d i : Nat) (out : List IRw), i + d = Q.length → out.length ≤ i → (∀ y ∈ out, y.f0.length ≤ 5) → Ev (fun k => impl_rowsAgainst.l0 k p out Q (Q.length : Int) (i : Int)) (agS p (Q.drop i) out) := by
  intro d
  induction d with
  | zero =>
    intro i out hi ho hy
    rw [List.drop_of_length_le (by omega)]
    exact Ev.step (fun k => impl_rowsAgainst.l0.eq_2 _ _ _ _ _ _) (Ev.neg (by omega) (Ev.now _))
  | succ d ih =>
    intro i out hi ho hy
    have hlt : i < Q.length := by omega
    have q5 := hq _ (mem_getD Q [] i hlt)
    refine Ev.step (fun k => impl_rowsAgainst.l0.eq_2 _ _ _ _ _ _) (Ev.pos (by omega) (Ev.pos (by omega) (Ev.pos (by omega) ?_)))
    rw [show rd_L1 Q (i : Int) = Q.getD i [] from rfl, drop_cons Q [] i hlt, agS, wrapS (n := i) (Nat.le_refl _) (by omega)]
    generalize Q.getD i [] = q at *
    have r5 : (rowM p q).length = 5 := by rw [rowM_length _ _ (by omega)]; exact hp
    refine Ev.bind (implRowOf_ev p q hp q5) (Ev.bind (implTrivial_ev _ r5 (rowM_range _ _)) ?_)
    by_cases c : triv (rowM p q) = true
    · rw [c, Bool.true_or, if_pos rfl]
      exact Ev.pos rfl (ih (i + 1) out (by omega) (by omega) hy)
    · rw [Bool.eq_false_iff.2 c, Bool.false_or]
      refine Ev.neg (by simp) (Ev.bind (implHasRow_ev out _ (by omega) hy) ?_)
      by_cases c' : decide ((⟨rowM p q⟩ : IRw) ∈ out) = true
      · rw [if_pos c']
        exact Ev.pos c' (ih (i + 1) out (by omega) (by omega) hy)
      · rw [if_neg c']
        refine Ev.neg c' (Ev.pos (by omega) (ih (i + 1) _ (by omega) (by rw [List.length_append, List.length_singleton]; omega) (fun y hm => ?_)))
        rcases List.mem_append.1 hm with hm | hm
        · exact hy y hm
        · rw [List.mem_singleton.1 hm]
          exact Nat.le_of_eq r5
theorem footRows_ev (w : List Int) (n : Int) (fs : List IFt) (m : Int) (hl : fs.length ≤ 1048576) : ∃ out b, Ev (fun k => spec_FootRows.f k w n fs m) (out, b) ∧ Ev (fun k => impl_FootRows.f k w n fs m) (out, b) ∧ out.length ≤ 1000 ∧ ∀ y ∈ out, y.f0.length ≤ 5 := by
  have hl' : fs.length ≤ 4611686018427387904 := by omega
  unfold spec_FootRows.f impl_FootRows.f
  have js : Ev (fun k => spec_FootRows.j0 k [] true n fs m) ([], false) := Ev.step (fun k => spec_FootRows.j0.eq_2 _ _ _ _ _ _) (Ev.pos rfl (Ev.now _))
  have ji : Ev (fun k => impl_FootRows.j0 k true n fs m) ([], false) := Ev.step (fun k => impl_FootRows.j0.eq_2 _ _ _ _ _) (Ev.pos rfl (Ev.now _))
  have sF := specIsFooting_ev n fs m hl'
  have iF := implIsFooting_ev n fs m hl'
  by_cases c : isFt n fs m = true
  case neg => exact ⟨[], false, Ev.bind (Ev.now _) (Ev.bind sF (Ev.neg c js)), Ev.bind iF (Ev.neg c ji), by simp, by simp⟩
  obtain ⟨h1, h2, h3⟩ := isFt_split c
  have sS := specStresses_ev n fs m hl' c
  have iS := implStresses_ev n fs m hl' c
  have hs := stress_length n fs m
  have sE := l5Same_ev (stress n fs m) w (by omega)
  have iE := slicesEqual_ev (stress n fs m) w (by omega)
  by_cases c4 : n > 4
  · refine ⟨[], false, Ev.bind (Ev.now _) (Ev.bind sF (Ev.pos c (Ev.bind sS (Ev.bind sE ?_)))), Ev.bind iF (Ev.pos c (Ev.pos c4 ji)), by simp, by simp⟩
    by_cases z : decide (stress n fs m = w) = true
    · refine Ev.pos z ?_
      rw [decide_eq_true c4]; exact js
    · exact Ev.neg z js
  by_cases z : decide (stress n fs m = w) = true
  case neg =>
    refine ⟨[], false, Ev.bind (Ev.now _) (Ev.bind sF (Ev.pos c (Ev.bind sS (Ev.bind sE (Ev.neg z js))))), Ev.bind iF (Ev.pos c (Ev.neg c4 (Ev.bind iS (Ev.bind iE ?_)))), by simp, by simp⟩
    rw [Bool.eq_false_iff.2 z]; exact ji
  obtain ⟨L, l1, l2, l3, l4⟩ := footingsOk_ev n (by omega)
  have p5 := prof_length ⟨n, fs, m⟩
  have q5 : ∀ q ∈ L.map prof, q.length = 5 := fun q h => by
    obtain ⟨f, _, rfl⟩ := List.mem_map.1 h
    exact prof_length f
  have sR := specRows_loop L l3 l4 n fs m hl' c L.length 0 [] (by omega) (by simp) (by simp)
  have iP := implProfs_loop L l3 l4 L.length 0 [] (by omega) (by simp)
  have iA := implAgainst_loop (prof ⟨n, fs, m⟩) p5 (L.map prof) (by rw [List.length_map]; exact l3) q5 (L.map prof).length 0 [] (by omega) (by simp) (by simp)
  rw [List.drop_zero] at sR iP iA
  rw [List.nil_append] at iP
  obtain ⟨s1, s2⟩ := agS_small (prof ⟨n, fs, m⟩) p5 (L.map prof) [] q5 (by simp)
  rw [List.length_map, List.length_nil] at s1
  refine ⟨_, true, Ev.bind (Ev.now _) (Ev.bind sF (Ev.pos c (Ev.bind sS (Ev.bind sE (Ev.pos z ?_))))), Ev.bind iF (Ev.pos c (Ev.neg c4 (Ev.bind iS (Ev.bind iE ?_)))), by omega, s2⟩
  · rw [decide_eq_false c4]
    exact Ev.step (fun k => spec_FootRows.j0.eq_2 _ _ _ _ _ _) (Ev.neg (by simp) (Ev.bind l1 sR))
  · rw [z]
    exact Ev.step (fun k => impl_FootRows.j0.eq_2 _ _ _ _ _) (Ev.neg (by simp) (Ev.bind (implMarks_ev n fs m hl' c) (Ev.bind (Ev.bind l2 iP) (Ev.bind iA (Ev.now _)))))
abbrev LFt := S170
def toFt (y : LFt) : IFt := ⟨y.f0, y.f1, y.f2⟩
theorem szFooting_ev (n : Int) (fs : List LFt) (m : Int) (hl : fs.length ≤ maxLen) (a : Int) (h0 : 0 ≤ a) (h1 : a ≤ 1048576) : ∃ r, Ev (fun _ => laws_szFooting.f n fs m a) r ∧ -1 ≤ r ∧ r ≤ a ∧ (0 ≤ r → fs.length ≤ 1048576) := by
  obtain ⟨r, hr, h1, h2, h3⟩ := sz_leaf a fs.length hl h0 h1
  unfold laws_szFooting.f laws_szFootS.f
  rw [hr]
  by_cases c : r < 0
  · exact ⟨-1, Ev.bind (Ev.now _) (Ev.pos c (Ev.now _)), by omega, by omega, fun h => by omega⟩
  · exact ⟨r, Ev.bind (Ev.now _) (Ev.neg c (Ev.now _)), h1, h2, h3⟩
theorem toFooting_ev (n : Int) (fs : List LFt) (m : Int) (hl : fs.length ≤ 1048576) : Ev (fun k => laws_toFooting.f k n fs m) (n, fs.map toFt, m) := by
  unfold laws_toFooting.f laws_toFootS.f
  refine Ev.bind (a := fs.map toFt) (Ev.pos (by omega) (Ev.pos (by omega) ?_)) (Ev.now _)
  rw [Int.toNat_natCast]
  exact to_loop (fun k ys i => laws_toFootS.l0 k fs ys i) (fun _ y => laws_toFoot.f y.f0 y.f1 y.f2) (fun t => (⟨t.1, t.2.1, t.2.2⟩ : IFt)) (fun y => (y.f0, y.f1, y.f2)) fs z170 (by omega) (fun k ys i => laws_toFootS.l0.eq_2 _ _ _ _)
    (fun y _ => Ev.flat (by rfl)) fs.length 0 (List.replicate fs.length z166) (by omega) (by rw [List.length_replicate]) rfl
theorem eqFoot_ev (a b : IFt) : Ev (fun _ => laws_eqFoot.f a.f0 a.f1 a.f2 b.f0 b.f1 b.f2) (decide (a = b)) := by
  refine Ev.flat ?_
  unfold laws_eqFoot.f
  obtain ⟨a0, a1, a2⟩ := a
  obtain ⟨b0, b1, b2⟩ := b
  by_cases h : a0 = b0 <;> by_cases h' : a1 = b1 <;> by_cases h'' : a2 = b2 <;> simp [h, h', h'']
theorem eqFootS_ev (xs ys : List IFt) (hn : xs.length ≤ 4611686018427387904) : Ev (fun k => laws_eqFootS.f k xs ys) (decide (xs = ys)) :=
  eq_slice _ (fun k i => laws_eqFootS.l0 k xs ys i) xs ys (fun _ => rfl)
    (fun e => eq_loop _ (fun _ a b => laws_eqFoot.f a.f0 a.f1 a.f2 b.f0 b.f1 b.f2) xs ys z166 e hn (fun k i => laws_eqFootS.l0.eq_2 _ _ _ _) (fun a _ b _ => eqFoot_ev a b) xs.length 0 (by omega))
theorem eqFooting_refl (n : Int) (fs : List IFt) (m : Int) (hn : fs.length ≤ 4611686018427387904) : Ev (fun k => laws_eqFooting.f k n fs m n fs m) true := by
  unfold laws_eqFooting.f
  exact Ev.pos rfl (Ev.bind (eqFootS_ev fs fs hn) (Ev.pos (decide_eq_true rfl) (Ev.pos rfl (Ev.now _))))
theorem markFootS_loop : ∀ (d i : Nat) (ys : List IFt) (m : Int), i + d = ys.length → ys.length ≤ 1048576 → 0 ≤ m → m + 3 * d ≤ 4611686018427387904 →
    ∃ r zs, Ev (fun k => laws_markFootS.l0 k ys m (i : Int)) (r, zs) ∧ 0 ≤ r ∧ r ≤ m + 3 * d := by
  intro d
  induction d with
  | zero =>
    intro i ys m hi hl h0 hm
    exact ⟨m, ys, Ev.step (fun k => laws_markFootS.l0.eq_2 _ _ _ _) (Ev.neg (by omega) (Ev.now _)), h0, by omega⟩
  | succ d ih =>
    intro i ys m hi hl h0 hm
    have w1 : wrap64 (m + 1) = m + 1 := wrapI _ (by omega)
    have w2 : wrap64 (m + 1 + 1) = m + 2 := by rw [wrapI _ (by omega)]; omega
    have w3 : wrap64 (m + 2 + 1) = m + 3 := by rw [wrapI _ (by omega)]; omega
    have go : ∀ ws : List IFt, ws.length = ys.length → ∃ r zs, Ev (fun k => laws_markFootS.l0 k ws (m + 3) ((i + 1 : Nat) : Int)) (r, zs) ∧ 0 ≤ r ∧ r ≤ m + 3 * ((d + 1 : Nat) : Int) := fun ws hw => by
      obtain ⟨r, zs, h1, h2, h3⟩ := ih (i + 1) ws (m + 3) (by omega) (by omega) (by omega) (by omega)
      exact ⟨r, zs, h1, h2, by omega⟩
    have key : ∃ ws : List IFt, ws.length = ys.length ∧ ∀ r, Ev (fun k => laws_markFootS.l0 k ws (m + 3) ((i + 1 : Nat) : Int)) r → Ev (fun k => laws_markFootS.l0 k ys m (i : Int)) r := by
      obtain ⟨y1, e1⟩ : ∃ y1 : List IFt, y1 = ys.set (i : Int).toNat ⟨m, (rd_T166 ys (i : Int)).f1, (rd_T166 ys (i : Int)).f2⟩ := ⟨_, rfl⟩
      obtain ⟨y2, e2⟩ : ∃ y2 : List IFt, y2 = y1.set (i : Int).toNat ⟨(rd_T166 y1 (i : Int)).f0, m + 1, (rd_T166 y1 (i : Int)).f2⟩ := ⟨_, rfl⟩
      obtain ⟨y3, e3⟩ : ∃ y3 : List IFt, y3 = y2.set (i : Int).toNat ⟨(rd_T166 y2 (i : Int)).f0, (rd_T166 y2 (i : Int)).f1, m + 2⟩ := ⟨_, rfl⟩
      refine ⟨y3, by rw [e3, List.length_set, e2, List.length_set, e1, List.length_set], fun r h => Ev.step (fun k => laws_markFootS.l0.eq_2 _ _ _ _) ?_⟩
      rw [w1, w2, w3, wrapS (n := i) (Nat.le_refl _) (by omega)]
      refine Ev.pos (by omega) (Ev.pos (by omega) (Ev.bind (Ev.now _) (Ev.bind (Ev.now _) ?_)))
      rw [← e1, ← e2, ← e3]
      exact h
    obtain ⟨ws, hw, hk⟩ := key
    obtain ⟨r, zs, h1, h2, h3⟩ := go ws hw
    exact ⟨r, zs, hk _ h1, h2, h3⟩
theorem markFooting_any (n : Int) (ys : List IFt) (q : Int) (m : Int) (hl : ys.length ≤ 1048576) (h0 : 0 ≤ m) (hm : m ≤ 4503599627370496) :
    ∃ r zs, Ev (fun k => laws_markFooting.f k n ys q m) (r, zs) ∧ 0 ≤ r := by
  obtain ⟨r, zs, h1, h2, h3⟩ := markFootS_loop ys.length 0 ys m (by omega) hl h0 (by omega)
  exact ⟨r, zs, Ev.bind h1 (Ev.now _), h2⟩
theorem szIntS_ev (l : List Int) (hl : l.length ≤ maxLen) (a : Int) (h0 : 0 ≤ a) (h1 : a ≤ 1048576) : ∃ r, Ev (fun _ => laws_szIntS.f l a) r ∧ -1 ≤ r ∧ r ≤ a ∧ (0 ≤ r → l.length ≤ 1048576) := by
  obtain ⟨r, hr, h⟩ := sz_leaf a l.length hl h0 h1
  exact ⟨r, Ev.flat hr, h⟩
theorem toIntS_loop (xs : List Int) (hn : xs.length ≤ 4611686018427387904) : ∀ (d i : Nat) (ys : List Int), i + d = xs.length → ys.length = xs.length → ys.take i = xs.take i →
    Ev (fun k => laws_toIntS.l0 k xs ys (i : Int)) xs := by
  intro d
  induction d with
  | zero =>
    intro i ys hi hl ht
    refine Ev.step (fun k => laws_toIntS.l0.eq_2 _ _ _ _) ?_
    refine Ev.neg (by omega) (Ev.is ?_)
    have e : i = xs.length := by omega
    rw [e, List.take_length, ← hl, List.take_length] at ht
    exact ht
  | succ d ih =>
    intro i ys hi hl ht
    have hlt : i < xs.length := by omega
    obtain ⟨h1, h2⟩ := set_fill xs ys 0 i hlt hl ht
    refine Ev.step (fun k => laws_toIntS.l0.eq_2 _ _ _ _) ?_
    refine Ev.pos (by omega) (Ev.pos (by omega) (Ev.pos (by omega) ?_))
    rw [wrapS (Nat.le_of_lt hlt) hn, rdN, Int.toNat_natCast]
    exact ih (i + 1) _ (by omega) h1 h2
theorem toIntS_ev (xs : List Int) (hn : xs.length ≤ 35184372088832) : Ev (fun k => laws_toIntS.f k xs) xs := by
  unfold laws_toIntS.f
  refine Ev.pos (by omega) (Ev.pos (by omega) ?_)
  rw [Int.toNat_natCast]
  exact toIntS_loop xs (by omega) xs.length 0 _ (by omega) (by rw [List.length_replicate]) rfl
theorem szWord_ev (l : List Int) (hl : l.length ≤ maxLen) (a : Int) (h0 : 0 ≤ a) (h1 : a ≤ 1048576) : ∃ r, Ev (fun _ => laws_szWord.f l a) r ∧ -1 ≤ r ∧ r ≤ a ∧ (0 ≤ r → l.length ≤ 1048576) := by
  obtain ⟨r, hr, h1, h2, h3⟩ := szIntS_ev l hl a h0 h1
  unfold laws_szWord.f
  by_cases c : r < 0
  · exact ⟨-1, Ev.bind hr (Ev.pos c (Ev.now _)), by omega, by omega, fun h => by omega⟩
  · exact ⟨r, Ev.bind hr (Ev.neg c (Ev.now _)), h1, h2, h3⟩
theorem toWord_ev (l : List Int) (hl : l.length ≤ 1048576) : Ev (fun k => laws_toWord.f k l) l := by
  unfold laws_toWord.f
  exact Ev.bind (toIntS_ev l (by omega)) (Ev.now _)
theorem eqWord_ev (a b : List Int) (hn : a.length ≤ 4611686018427387904) : Ev (fun k => laws_eqWord.f k a b) (decide (a = b)) := by
  unfold laws_eqWord.f
  refine Ev.bind (eqIntS_ev _ _ hn) ?_
  by_cases c : a = b
  · exact Ev.pos (decide_eq_true c) (Ev.is (decide_eq_true c).symm)
  · exact Ev.neg (by simpa using c) (Ev.is (decide_eq_false c).symm)
def marked (n : Nat) (m : Int) : List Int := (List.range n).map (fun i : Nat => m + (i : Int))
theorem marked_length (n : Nat) (m : Int) : (marked n m).length = n := by simp [marked]
theorem marked_at (n : Nat) (m : Int) (i : Nat) (h : i < n) : (marked n m).getD i 0 = m + i := by
  rw [getD_at _ _ _ (by simpa [marked] using h)]; simp [marked]
theorem markIntS_loop (n : Nat) (m : Int) (h0 : 0 ≤ m) (hn : m + n ≤ 4611686018427387904) : ∀ (d i : Nat) (ys : List Int), i + d = n → ys.length = n → ys.take i = (marked n m).take i → Ev (fun k => laws_markIntS.l0 k ys (m + i) (i : Int)) (m + n, marked n m) := by
  intro d
  induction d with
  | zero =>
    intro i ys hi hl ht
    obtain rfl : i = n := by omega
    refine Ev.step (fun k => laws_markIntS.l0.eq_2 _ _ _ _) (Ev.neg (by omega) (Ev.is ?_))
    rw [List.take_of_length_le (by omega), List.take_of_length_le (by rw [marked_length]; omega)] at ht
    rw [ht]
  | succ d ih =>
    intro i ys hi hl ht
    have hlt : i < n := by omega
    obtain ⟨h1, h2⟩ := set_fill (marked n m) ys 0 i (by rw [marked_length]; exact hlt) (by rw [marked_length]; exact hl) ht
    rw [marked_at n m i hlt, marked_length] at *
    refine Ev.step (fun k => laws_markIntS.l0.eq_2 _ _ _ _) (Ev.pos (by omega) (Ev.pos (by omega) ?_))
    rw [wrapS (n := n) (by omega) (by omega), wrapI (m + i + 1) (by omega), Int.toNat_natCast]
    have := ih (i + 1) _ (by omega) h1 h2
    rwa [show m + ((i + 1 : Nat) : Int) = m + i + 1 by omega] at this
theorem markIntS_ev (xs : List Int) (m : Int) (h0 : 0 ≤ m) (hn : m + xs.length ≤ 4611686018427387904) : Ev (fun k => laws_markIntS.f k xs m) (m + xs.length, marked xs.length m) := by
  have := markIntS_loop xs.length m h0 hn xs.length 0 xs (by omega) rfl rfl
  unfold laws_markIntS.f
  simpa using this
theorem heldIntS_loop (n : Nat) (m : Int) (h0 : 0 ≤ m) (hn : m + n ≤ 4611686018427387904) : ∀ (d i : Nat), i + d = n → Ev (fun k => laws_heldIntS.l0 k (marked n m) (m + i) (i : Int)) (m + n) := by
  intro d
  induction d with
  | zero =>
    intro i hi
    obtain rfl : i = n := by omega
    exact Ev.step (fun k => laws_heldIntS.l0.eq_2 _ _ _ _) (Ev.neg (by rw [marked_length]; omega) (Ev.now _))
  | succ d ih =>
    intro i hi
    have hlt : i < n := by omega
    refine Ev.step (fun k => laws_heldIntS.l0.eq_2 _ _ _ _) (Ev.pos (by rw [marked_length]; omega) (Ev.pos (by omega) ?_))
    rw [rdN, marked_at n m i hlt, wrapS (n := n) (by omega) (by omega), wrapI (m + i + 1) (by omega)]
    refine Ev.pos rfl ?_
    have := ih (i + 1) (by omega)
    rwa [show m + ((i + 1 : Nat) : Int) = m + i + 1 by omega] at this
theorem heldIntS_ev (n : Nat) (m : Int) (h0 : 0 ≤ m) (hn : m + n ≤ 4611686018427387904) : Ev (fun k => laws_heldIntS.f k (marked n m) m) (m + n) := by
  have := heldIntS_loop n m h0 hn n 0 (by omega)
  unfold laws_heldIntS.f
  simpa using this
def markRS : List IRw → Int → List IRw
  | [], _ => []
  | y :: ys, m => ⟨marked y.f0.length m⟩ :: markRS ys (m + y.f0.length)
def lenRS : List IRw → Nat
  | [] => 0
  | y :: ys => y.f0.length + lenRS ys
theorem markRS_loop : ∀ (rest done : List IRw) (m : Int), done.length + rest.length ≤ 1048576 → (∀ y ∈ rest, y.f0.length ≤ 1048576) → 0 ≤ m → m + 1048576 * rest.length ≤ 4611686018427387904 → Ev (fun k => laws_markRowS.l0 k (done ++ rest) m (done.length : Int)) (m + lenRS rest, done ++ markRS rest m)
  | [], done, m, hl, hy, h0, hm => by
    refine Ev.step (fun k => laws_markRowS.l0.eq_2 _ _ _ _) (Ev.neg (by simp) (Ev.is ?_))
    simp [lenRS, markRS]
  | y :: ys, done, m, hl, hy, h0, hm => by
    have hx := hy y (List.mem_cons_self ..)
    have hlt : done.length < (done ++ y :: ys).length := by rw [List.length_append, List.length_cons]; omega
    have hg : (done ++ y :: ys).getD done.length z34 = y := by rw [List.getD_eq_getElem?_getD, List.getElem?_append_right (Nat.le_refl _), Nat.sub_self]; rfl
    have hs : ∀ z, (done ++ y :: ys).set done.length z = (done ++ [z]) ++ ys := fun z => by rw [List.set_append_right _ _ (Nat.le_refl _), Nat.sub_self, List.append_assoc]; rfl
    rw [List.length_cons] at hl hm
    have ih := markRS_loop ys (done ++ [⟨marked y.f0.length m⟩]) (m + y.f0.length) (by rw [List.length_append, List.length_singleton]; omega) (fun z h => hy z (List.mem_cons_of_mem _ h)) (by omega) (by omega)
    refine Ev.step (fun k => laws_markRowS.l0.eq_2 _ _ _ _) (Ev.pos (by omega) (Ev.pos (by omega) (Ev.bind (by rw [Int.toNat_natCast, hg]; exact markIntS_ev y.f0 m h0 (by omega)) ?_)))
    simp only [Int.toNat_natCast]
    rw [hs, wrapS (n := done.length) (Nat.le_refl _) (by omega)]
    rw [List.length_append, List.length_singleton] at ih
    rw [markRS, List.append_cons done (⟨marked y.f0.length m⟩ : IRw) (markRS ys (m + y.f0.length))]
    rw [lenRS, show m + ((y.f0.length + lenRS ys : Nat) : Int) = m + (y.f0.length : Int) + (lenRS ys : Int) by omega]
    exact ih
theorem markRS_ev (ys : List IRw) (m : Int) (hl : ys.length ≤ 1048576) (hy : ∀ y ∈ ys, y.f0.length ≤ 1048576) (h0 : 0 ≤ m) (hm : m + 1048576 * ys.length ≤ 4611686018427387904) : Ev (fun k => laws_markRowS.f k ys m) (m + lenRS ys, markRS ys m) :=
  markRS_loop ys [] m (by simpa using hl) hy h0 hm
theorem heldRS_loop : ∀ (rest done : List IRw) (m : Int), done.length + rest.length ≤ 1048576 → (∀ y ∈ rest, y.f0.length ≤ 1048576) → 0 ≤ m → m + 1048576 * rest.length ≤ 4611686018427387904 → Ev (fun k => laws_heldRowS.l0 k (done ++ markRS rest m) m (done.length : Int)) (m + lenRS rest)
  | [], done, m, hl, hy, h0, hm => by
    refine Ev.step (fun k => laws_heldRowS.l0.eq_2 _ _ _ _) (Ev.neg (by simp [markRS]) (Ev.is ?_))
    simp [lenRS]
  | y :: ys, done, m, hl, hy, h0, hm => by
    have hx := hy y (List.mem_cons_self ..)
    rw [markRS]
    have hlt : done.length < (done ++ (⟨marked y.f0.length m⟩ : IRw) :: markRS ys (m + y.f0.length)).length := by rw [List.length_append, List.length_cons]; omega
    have hg : (done ++ (⟨marked y.f0.length m⟩ : IRw) :: markRS ys (m + y.f0.length)).getD done.length z34 = ⟨marked y.f0.length m⟩ := by rw [List.getD_eq_getElem?_getD, List.getElem?_append_right (Nat.le_refl _), Nat.sub_self]; rfl
    rw [List.length_cons] at hl hm
    have ih := heldRS_loop ys (done ++ [⟨marked y.f0.length m⟩]) (m + y.f0.length) (by rw [List.length_append, List.length_singleton]; omega) (fun z h => hy z (List.mem_cons_of_mem _ h)) (by omega) (by omega)
    refine Ev.step (fun k => laws_heldRowS.l0.eq_2 _ _ _ _) (Ev.pos (by omega) (Ev.pos (by omega) ?_))
    rw [show rd_T34 (done ++ (⟨marked y.f0.length m⟩ : IRw) :: markRS ys (m + y.f0.length)) (done.length : Int) = (done ++ (⟨marked y.f0.length m⟩ : IRw) :: markRS ys (m + y.f0.length)).getD done.length z34 from rfl, hg]
    refine Ev.bind (heldIntS_ev y.f0.length m h0 (by omega)) (Ev.neg (by omega) ?_)
    rw [wrapS (n := done.length) (Nat.le_refl _) (by omega)]
    rw [List.length_append, List.length_singleton, List.append_assoc] at ih
    rw [lenRS, show m + ((y.f0.length + lenRS ys : Nat) : Int) = m + (y.f0.length : Int) + (lenRS ys : Int) by omega]
    exact ih
theorem heldRS_ev (ys : List IRw) (m : Int) (hl : ys.length ≤ 1048576) (hy : ∀ y ∈ ys, y.f0.length ≤ 1048576) (h0 : 0 ≤ m) (hm : m + 1048576 * ys.length ≤ 4611686018427387904) : Ev (fun k => laws_heldRowS.f k (markRS ys m) m) (m + lenRS ys) :=
  heldRS_loop ys [] m (by simpa using hl) hy h0 hm
theorem FnExactFootRows (l0_0 : List (Int)) (a1_0 : Int) (l1_1 : List (S170)) (a1_2 : Int) (h0_0 : (l0_0.length ≤ maxLen ∧ ∀ y1 ∈ l0_0, (Lit.int .i64 y1).wf = true)) (h1_0 : (Lit.int .i64 a1_0).wf = true) (h1_1 : (l1_1.length ≤ maxLen ∧ ∀ y2 ∈ l1_1, ((Lit.int .i64 y2.f0).wf = true ∧ (Lit.int .i64 y2.f1).wf = true ∧ (Lit.int .i64 y2.f2).wf = true))) (h1_2 : (Lit.int .i64 a1_2).wf = true) : ∃ k, laws_FnExactFootRows.f k l0_0 a1_0 l1_1 a1_2 = some true := by
  refine Ev.rounds (g := fun k => laws_FnExactFootRows.f k l0_0 a1_0 l1_1 a1_2) ?_
  unfold laws_FnExactFootRows.f
  obtain ⟨r, hr, hr1, hr2, hg⟩ := szWord_ev l0_0 h0_0.1 1048576 (by omega) (by omega)
  refine Ev.bind hr ?_
  by_cases c : r < 0
  · exact Ev.pos c (Ev.now _)
  refine Ev.neg c ?_
  obtain ⟨s, hs, hs1, hs2, hg'⟩ := szFooting_ev a1_0 l1_1 a1_2 h1_1.1 r (by omega) (by omega)
  refine Ev.bind hs ?_
  by_cases c' : s < 0
  · exact Ev.pos c' (Ev.now _)
  refine Ev.neg c' ?_
  have hw := hg (by omega)
  have hf := hg' (by omega)
  have t0 := toWord_ev l0_0 hw
  have t1 := toFooting_ev a1_0 l1_1 a1_2 hf
  have hlen : (l1_1.map toFt).length ≤ 1048576 := by rw [List.length_map]; exact hf
  generalize l1_1.map toFt = fs at *
  obtain ⟨out, b, hsp, him, o1, o2⟩ := footRows_ev l0_0 a1_0 fs a1_2 hlen
  have same : ∀ {α : Type} [DecidableEq α] (x : α), decide (x = x) = true := fun x => decide_eq_true rfl
  have er := eqRowS_ev out out (by omega) (fun y h => by have := o2 y h; omega)
  have ew := eqWord_ev l0_0 l0_0 (by omega)
  have ef := eqFooting_refl a1_0 fs a1_2 (by omega)
  have m0 : Ev (fun k => laws_markWord.f k l0_0 1) (1 + l0_0.length, marked l0_0.length 1) := Ev.bind (markIntS_ev l0_0 1 (by omega) (by omega)) (Ev.now _)
  obtain ⟨r1, zs, m1, q1⟩ := markFooting_any a1_0 fs a1_2 (1 + l0_0.length) hlen (by omega) (by omega)
  have m2 := markRS_ev out 1 (by omega) (fun y h => by have := o2 y h; omega) (by omega) (by omega)
  have m3 := heldRS_ev out 1 (by omega) (fun y h => by have := o2 y h; omega) (by omega) (by omega)
  refine Ev.bind t0 (Ev.bind t1 (Ev.bind hsp (Ev.bind t0 (Ev.bind t1 (Ev.bind him (Ev.bind er (Ev.pos (same _) (Ev.neg (by simp) ?_))))))))
  refine Ev.bind t0 (Ev.bind ew (Ev.pos (same _) ?_))
  refine Ev.bind t1 (Ev.bind ef (Ev.pos rfl ?_))
  refine Ev.bind m0 (Ev.bind m1 (Ev.neg (by simp only []; omega) (Ev.bind er (Ev.pos (same _) ?_))))
  refine Ev.bind m2 (Ev.bind m3 (Ev.neg (by omega) (Ev.pos rfl ?_)))
  refine Ev.bind t0 (Ev.bind t1 (Ev.bind him (Ev.bind er (Ev.pos (same _) (Ev.neg (by simp) ?_)))))
  exact Ev.bind m3 (Ev.neg (by omega) (Ev.pos rfl (Ev.now _)))
end Go.Proofs.Ytkddpilambnicaa.Pure
