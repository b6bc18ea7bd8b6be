/- The program's HearAll and the reference's answer alike, the arguments stay, and what is returned is new. Conditions: what slices may hold at most. -/
import Derived.Test.YtkddpilambnicaaPFnExactHearAllx0
import Derived.Test.YtkddpilambnicaaPFnExactHearAllx1
import Derived.Test.YtkddpilambnicaaPFnExactHearAllx2
import Derived.Test.YtkddpilambnicaaPFnExactHearAllx3
import Derived.Test.YtkddpilambnicaaPFnExactHearAllx4
import Derived.Test.YtkddpilambnicaaPFnExactHearAllx5
import Derived.Test.YtkddpilambnicaaPFnExactHearAllx6
import Derived.Test.YtkddpilambnicaaPFnExactHearAllx7
import Derived.Test.YtkddpilambnicaaPFnExactHearAllx8
import Derived.Test.YtkddpilambnicaaPFnExactHearAllx9
import Derived.Test.YtkddpilambnicaaPFnExactHearAllx10
import Derived.Test.YtkddpilambnicaaPFnExactHearAllx11
import Derived.Test.YtkddpilambnicaaPFnExactHearAllx12
import Derived.Test.YtkddpilambnicaaPFnExactHearAllx13
import Derived.Test.YtkddpilambnicaaPFnExactHearAllx14
import Derived.Test.YtkddpilambnicaaKit
import Derived.WideShapes
import Derived.Laws.Strings
set_option linter.unusedVariables false
set_option linter.unusedSimpArgs false
namespace Go.Proofs.Ytkddpilambnicaa.Pure
open Go.RowKit Go.WideShapes Go.Proofs.Ytkddpilambnicaa.PFnExactHearAll Go.Proofs.Ytkddpilambnicaa.Kit Go.Proofs.YtkddpilambnicaaW.PrintWords Go.Proofs.YtkddpilambnicaaW.PrintLast
theorem specCopy_loop (n e n' e' : Int) (xs : List (List Int)) (hn : xs.length ≤ 1048576) (hy : ∀ y ∈ xs, y.length ≤ 1048576) : ∀ (d i : Nat) (out : List (List Int)), i + d = xs.length → out.length ≤ i → Ev (fun k => spec_l22Copy.l0 k (i : Int) n xs e n' out e') (n', out ++ xs.drop i, e') := by
  intro d
  induction d with
  | zero =>
    intro i out hi ho
    rw [List.drop_of_length_le (by omega)]
    exact Ev.step (fun k => spec_l22Copy.l0.eq_2 _ _ _ _ _ _ _ _) (Ev.neg (by omega) (Ev.is (by simp)))
  | succ d ih =>
    intro i out hi ho
    have hlt : i < xs.length := by omega
    have hb := hy _ (mem_getD xs [] i hlt)
    refine Ev.step (fun k => spec_l22Copy.l0.eq_2 _ _ _ _ _ _ _ _) (Ev.pos (by omega) (Ev.bind (Ev.now _) (Ev.pos (by omega) ?_)))
    rw [show rd_L1 xs (i : Int) = xs.getD i [] from rfl, wrapS (Nat.le_of_lt hlt) (by omega), drop_cons xs [] i hlt]
    refine Ev.pos (by simp only [List.length_nil]; omega) (Ev.pos (by omega) ?_)
    have := ih (i + 1) (out ++ [xs.getD i []]) (by omega) (by rw [List.length_append, List.length_singleton]; omega)
    rw [List.append_assoc] at this
    exact this
theorem specCopy_ev (n e : Int) (xs : List (List Int)) (hn : xs.length ≤ 1048576) (hy : ∀ y ∈ xs, y.length ≤ 1048576) : Ev (fun k => spec_l22Copy.f k n xs e) (n, xs, e) := by
  have := specCopy_loop n e n e xs hn hy xs.length 0 [] (by omega) (by simp)
  rw [List.drop_zero, List.nil_append] at this
  exact this
theorem implCopyRows_loop (xs : List (List Int)) (hn : xs.length ≤ 1048576) (hy : ∀ y ∈ xs, y.length ≤ 1048576) : ∀ (d i : Nat) (out : List (List Int)), i + d = xs.length → out.length ≤ i → Ev (fun k => impl_copyRows.l0 k out xs (xs.length : Int) (i : Int)) (out ++ xs.drop i) := by
  intro d
  induction d with
  | zero =>
    intro i out hi ho
    rw [List.drop_of_length_le (by omega)]
    exact Ev.step (fun k => impl_copyRows.l0.eq_2 _ _ _ _ _) (Ev.neg (by omega) (Ev.is (by simp)))
  | succ d ih =>
    intro i out hi ho
    have hlt : i < xs.length := by omega
    have hb := hy _ (mem_getD xs [] i hlt)
    refine Ev.step (fun k => impl_copyRows.l0.eq_2 _ _ _ _ _) (Ev.pos (by omega) (Ev.pos (by omega) (Ev.pos (by omega) ?_)))
    rw [show rd_L1 xs (i : Int) = xs.getD i [] from rfl, wrapS (Nat.le_of_lt hlt) (by omega), drop_cons xs [] i hlt]
    refine Ev.bind (a := xs.getD i []) (Ev.flat ?_) (Ev.pos (by omega) ?_)
    · unfold slices_Clone_int_int.f
      simp only [Option.bind_some, List.length_nil, Nat.zero_add, List.nil_append]
      exact if_pos (by omega)
    · have := ih (i + 1) (out ++ [xs.getD i []]) (by omega) (by rw [List.length_append, List.length_singleton]; omega)
      rw [List.append_assoc] at this
      exact this
theorem implCopyRows_ev (xs : List (List Int)) (hn : xs.length ≤ 1048576) (hy : ∀ y ∈ xs, y.length ≤ 1048576) : Ev (fun k => impl_copyRows.f k xs) xs := by
  have := implCopyRows_loop xs hn hy xs.length 0 [] (by omega) (by simp)
  rw [List.drop_zero, List.nil_append] at this
  exact this
theorem implCopied_ev (n e : Int) (xs : List (List Int)) (hn : xs.length ≤ 1048576) (hy : ∀ y ∈ xs, y.length ≤ 1048576) : Ev (fun k => impl_Learner_copied.f k n xs e) (n, xs, e) := by
  unfold impl_Learner_copied.f
  exact Ev.bind (implCopyRows_ev xs hn hy) (Ev.now _)
theorem l12Has_loop (xs : List Int) (v : Int) (hn : xs.length ≤ 4611686018427387904) : ∀ (d i : Nat), i + d = xs.length → Ev (fun k => spec_l12Has.l0 k xs v (i : Int)) (decide (v ∈ xs.drop i)) := by
  intro d
  induction d with
  | zero =>
    intro i hi
    refine Ev.step (fun k => spec_l12Has.l0.eq_2 _ _ _ _) (Ev.neg (by omega) (Ev.is ?_))
    rw [List.drop_of_length_le (by omega)]
    simp
  | succ d ih =>
    intro i hi
    have hlt : i < xs.length := by omega
    refine Ev.step (fun k => spec_l12Has.l0.eq_2 _ _ _ _) (Ev.pos (by omega) (Ev.pos (by omega) ?_))
    rw [wrapS (Nat.le_of_lt hlt) hn, rdN, drop_cons xs 0 i hlt]
    by_cases c : xs.getD i 0 = v
    · exact Ev.pos c (Ev.is (decide_eq_true (by rw [c]; exact List.mem_cons_self ..)).symm)
    · refine Ev.neg c (Ev.to (ih (i + 1) (by omega)) (decide_eq_decide.2 ⟨fun h => List.mem_cons_of_mem _ h, fun h => ?_⟩))
      rcases List.mem_cons.1 h with h | h
      · exact absurd h.symm c
      · exact h
theorem l12Has_ev (xs : List Int) (v : Int) (hn : xs.length ≤ 4611686018427387904) : Ev (fun k => spec_l12Has.f k xs v) (decide (v ∈ xs)) := by
  unfold spec_l12Has.f
  simpa using l12Has_loop xs v hn xs.length 0 (by omega)
def sortS (l : List Int) : List Int := ([0, 1, 2, 3, 4] : List Int).filter (fun v => decide (v ∈ l))
theorem specSorted_ev (l : List Int) (hn : l.length ≤ 4611686018427387904) : Ev (fun k => spec_l22Sorted.f k l) (sortS l) := by
  have step : ∀ (v : Nat) (out : List Int) (r : List Int), v < 5 → out.length ≤ 5 → Ev (fun k => spec_l22Sorted.l0 k l (if decide ((v : Int) ∈ l) = true then out ++ [(v : Int)] else out) ((v + 1 : Nat) : Int)) r → Ev (fun k => spec_l22Sorted.l0 k l out (v : Int)) r := by
    intro v out r hv ho h
    refine Ev.step (fun k => spec_l22Sorted.l0.eq_2 _ _ _ _) (Ev.pos (by omega) (Ev.bind (l12Has_ev l (v : Int) hn) ?_))
    rw [wrapS (n := 5) (by omega) (by omega)]
    by_cases c : decide ((v : Int) ∈ l) = true
    · rw [if_pos c] at h
      exact Ev.pos c (Ev.pos (by omega) h)
    · rw [if_neg c] at h
      exact Ev.neg c h
  have len : ∀ (v : Nat) (out : List Int) (m : Nat), out.length ≤ m → (if decide ((v : Int) ∈ l) = true then out ++ [(v : Int)] else out).length ≤ m + 1 := by
    intro v out m h
    split
    · rw [List.length_append, List.length_singleton]; omega
    · omega
  unfold spec_l22Sorted.f
  refine step 0 [] _ (by omega) (by simp) (step 1 _ _ (by omega) (Nat.le_trans (len 0 _ 0 (by simp)) (by omega)) (step 2 _ _ (by omega) (Nat.le_trans (len 1 _ 1 (len 0 _ 0 (by simp))) (by omega)) (step 3 _ _ (by omega) (Nat.le_trans (len 2 _ 2 (len 1 _ 1 (len 0 _ 0 (by simp)))) (by omega)) (step 4 _ _ (by omega) (Nat.le_trans (len 3 _ 3 (len 2 _ 2 (len 1 _ 1 (len 0 _ 0 (by simp))))) (by omega)) ?_))))
  refine Ev.step (fun k => spec_l22Sorted.l0.eq_2 _ _ _ _) (Ev.neg (by omega) (Ev.is ?_))
  unfold sortS
  simp only [List.filter_cons, List.filter_nil]
  rw [show ((0 : Nat) : Int) = 0 from rfl, show ((1 : Nat) : Int) = 1 from rfl, show ((2 : Nat) : Int) = 2 from rfl, show ((3 : Nat) : Int) = 3 from rfl, show ((4 : Nat) : Int) = 4 from rfl]
  generalize decide ((0 : Int) ∈ l) = b0
  generalize decide ((1 : Int) ∈ l) = b1
  generalize decide ((2 : Int) ∈ l) = b2
  generalize decide ((3 : Int) ∈ l) = b3
  generalize decide ((4 : Int) ∈ l) = b4
  cases b0 <;> cases b1 <;> cases b2 <;> cases b3 <;> cases b4 <;> rfl
theorem strictS_ext : ∀ (a b : List Int), a.Pairwise (· < ·) → b.Pairwise (· < ·) → (∀ y, y ∈ a ↔ y ∈ b) → a = b
  | [], [], _, _, _ => rfl
  | [], y :: ys, _, _, h => absurd ((h y).2 (List.mem_cons_self ..)) (by simp)
  | x :: xs, [], _, _, h => absurd ((h x).1 (List.mem_cons_self ..)) (by simp)
  | x :: xs, y :: ys, ha, hb, h => by
    obtain ⟨h1, h2⟩ := List.pairwise_cons.1 ha
    obtain ⟨h3, h4⟩ := List.pairwise_cons.1 hb
    have e : x = y := by
      rcases List.mem_cons.1 ((h x).1 (List.mem_cons_self ..)) with e | e
      · exact e
      · rcases List.mem_cons.1 ((h y).2 (List.mem_cons_self ..)) with e2 | e2
        · exact e2.symm
        · have := h1 y e2; have := h3 x e; omega
    subst e
    rw [strictS_ext xs ys h2 h4 (fun z => ⟨fun hz => ?_, fun hz => ?_⟩)]
    · rcases List.mem_cons.1 ((h z).1 (List.mem_cons_of_mem _ hz)) with e | e
      · have := h1 z hz; omega
      · exact e
    · rcases List.mem_cons.1 ((h z).2 (List.mem_cons_of_mem _ hz)) with e | e
      · have := h3 z hz; omega
      · exact e
theorem sort_eq (l : List Int) (hd : l.Nodup) (hx : ∀ x ∈ l, 0 ≤ x ∧ x < 5) : l.mergeSort (fun x y => decide (x ≤ y)) = sortS l := by
  have hs : (l.mergeSort (fun x y => decide (x ≤ y))).Pairwise (· < ·) := by
    have hp := List.pairwise_mergeSort (le := fun x y : Int => decide (x ≤ y)) (fun a b c h1 h2 => by simp only [decide_eq_true_eq] at *; omega) (fun a b => by simp only [Bool.or_eq_true, decide_eq_true_eq]; omega) l
    have hn2 := (List.mergeSort_perm l (fun x y => decide (x ≤ y))).nodup_iff.2 hd
    exact List.Pairwise.imp₂ (fun a b h1 h2 => by simp only [decide_eq_true_eq] at h1; omega) hp hn2
  have ht : (sortS l).Pairwise (· < ·) := List.Pairwise.filter _ (by decide)
  refine strictS_ext _ _ hs ht (fun y => ?_)
  rw [List.mem_mergeSort]
  unfold sortS
  rw [List.mem_filter, decide_eq_true_eq]
  constructor
  · intro h
    have := hx y h
    have h5 : y = 0 ∨ y = 1 ∨ y = 2 ∨ y = 3 ∨ y = 4 := by omega
    exact ⟨by rcases h5 with rfl | rfl | rfl | rfl | rfl <;> decide, h⟩
  · exact fun h => h.2
theorem rank_all (l : List Int) (n : Nat) (h1 : n ≤ 5) (hl : l.length = n) (hd : l.Nodup) (hx : ∀ x ∈ l, 0 ≤ x ∧ x < (n : Int)) : ∀ u : Nat, u < n → (u : Int) ∈ l := by
  have e := sort_eq l hd (fun x h => by have := hx x h; omega)
  have hlen : (sortS l).length = n := by rw [← e, List.length_mergeSort, hl]
  have hno : ∀ v : Int, (n : Int) ≤ v → decide (v ∈ l) = false := fun v hv => decide_eq_false (fun h => by have := hx v h; omega)
  intro u hu
  have n5 : n = 0 ∨ n = 1 ∨ n = 2 ∨ n = 3 ∨ n = 4 ∨ n = 5 := by omega
  have key : decide ((u : Int) ∈ l) = true := by
    have u5 : u = 0 ∨ u = 1 ∨ u = 2 ∨ u = 3 ∨ u = 4 := by omega
    unfold sortS at hlen
    simp only [List.filter_cons, List.filter_nil] at hlen
    have z0 := hno 0
    have z1 := hno 1
    have z2 := hno 2
    have z3 := hno 3
    have z4 := hno 4
    have g : decide ((u : Int) ∈ l) = (if u = 0 then decide ((0 : Int) ∈ l) else if u = 1 then decide ((1 : Int) ∈ l) else if u = 2 then decide ((2 : Int) ∈ l) else if u = 3 then decide ((3 : Int) ∈ l) else decide ((4 : Int) ∈ l)) := by
      rcases u5 with rfl | rfl | rfl | rfl | rfl <;> rfl
    rw [g]
    clear g e hno hx hl hd
    generalize decide ((0 : Int) ∈ l) = b0 at *
    generalize decide ((1 : Int) ∈ l) = b1 at *
    generalize decide ((2 : Int) ∈ l) = b2 at *
    generalize decide ((3 : Int) ∈ l) = b3 at *
    generalize decide ((4 : Int) ∈ l) = b4 at *
    rcases n5 with rfl | rfl | rfl | rfl | rfl | rfl
    · omega
    · have z1 := z1 (by omega); have z2 := z2 (by omega); have z3 := z3 (by omega); have z4 := z4 (by omega); subst z1 z2 z3 z4
      obtain rfl : u = 0 := by omega
      cases b0 <;> simp at hlen ⊢
    · have z2 := z2 (by omega); have z3 := z3 (by omega); have z4 := z4 (by omega); subst z2 z3 z4
      rcases u5 with rfl | rfl | rfl | rfl | rfl <;> first | omega | (cases b0 <;> cases b1 <;> simp at hlen ⊢)
    · have z3 := z3 (by omega); have z4 := z4 (by omega); subst z3 z4
      rcases u5 with rfl | rfl | rfl | rfl | rfl <;> first | omega | (cases b0 <;> cases b1 <;> cases b2 <;> simp at hlen ⊢)
    · have z4 := z4 (by omega); subst z4
      rcases u5 with rfl | rfl | rfl | rfl | rfl <;> first | omega | (cases b0 <;> cases b1 <;> cases b2 <;> cases b3 <;> simp at hlen ⊢)
    · rcases u5 with rfl | rfl | rfl | rfl | rfl <;> first | omega | (cases b0 <;> cases b1 <;> cases b2 <;> cases b3 <;> cases b4 <;> simp at hlen ⊢)
  exact of_decide_eq_true key
def stFrom (c : Int) : List (List Int) → Nat → Int
  | [], _ => -1
  | y :: ys, i => if decide (c ∈ y) = true then (i : Int) else stFrom c ys (i + 1)
theorem specStratum_loop (c : Int) (xs : List (List Int)) (hn : xs.length ≤ 4611686018427387904) (hy : ∀ y ∈ xs, y.length ≤ 4611686018427387904) : ∀ (d i : Nat), i + d = xs.length → Ev (fun k => spec_l22Stratum.l0 k xs c (i : Int)) (stFrom c (xs.drop i) i) := by
  intro d
  induction d with
  | zero =>
    intro i hi
    rw [List.drop_of_length_le (by omega)]
    exact Ev.step (fun k => spec_l22Stratum.l0.eq_2 _ _ _ _) (Ev.neg (by omega) (Ev.now _))
  | succ d ih =>
    intro i hi
    have hlt : i < xs.length := by omega
    refine Ev.step (fun k => spec_l22Stratum.l0.eq_2 _ _ _ _) (Ev.pos (by omega) (Ev.pos (by omega) ?_))
    rw [show rd_L1 xs (i : Int) = xs.getD i [] from rfl, wrapS (Nat.le_of_lt hlt) hn, drop_cons xs [] i hlt, stFrom]
    refine Ev.bind (l12Has_ev _ c (hy _ (mem_getD xs [] i hlt))) ?_
    by_cases q : decide (c ∈ xs.getD i []) = true
    · rw [if_pos q]; exact Ev.pos q (Ev.now _)
    · rw [if_neg q]; exact Ev.neg q (ih (i + 1) (by omega))
theorem specStratum_ev (c : Int) (xs : List (List Int)) (hn : xs.length ≤ 4611686018427387904) (hy : ∀ y ∈ xs, y.length ≤ 4611686018427387904) : Ev (fun k => spec_l22Stratum.f k xs c) (stFrom c xs 0) := by
  have := specStratum_loop c xs hn hy xs.length 0 (by omega)
  rw [List.drop_zero] at this
  exact this
def topStep (m : List Int) (xs : List (List Int)) (t : Int) (v : Nat) : Int := if m.getD v 0 = 1 then (if t < 0 then stFrom (v : Int) xs 0 else if stFrom (v : Int) xs 0 < t then stFrom (v : Int) xs 0 else t) else t
def topFrom (m : List Int) (xs : List (List Int)) : Nat → Nat → Int → Int
  | 0, _, t => t
  | d + 1, v, t => topFrom m xs d (v + 1) (topStep m xs t v)
theorem specTop_loop (m : List Int) (xs : List (List Int)) (e c0 c2 : Int) (c1 : List (List Int)) (hm : m.length ≤ 4611686018427387904) (hn : xs.length ≤ 4611686018427387904) (hy : ∀ y ∈ xs, y.length ≤ 4611686018427387904) (res : Int × List (List Int) × Int × Bool) : ∀ (d v : Nat) (t : Int), v + d = m.length →
    Ev (fun k => if topFrom m xs d v t < 0 then (some (c0, c1, c2, false)) else (spec_HearRow.l1 k (topFrom m xs d v t) [] [] 0 (m.length : Int) xs e m c0 c1 c2)) res →
    Ev (fun k => spec_HearRow.l0 k t (v : Int) (m.length : Int) xs e m c0 c1 c2) res := by
  intro d
  induction d with
  | zero =>
    intro v t hv h
    exact Ev.step (fun k => spec_HearRow.l0.eq_2 _ _ _ _ _ _ _ _ _ _) (Ev.neg (by omega) h)
  | succ d ih =>
    intro v t hv h
    have hlt : v < m.length := by omega
    have hgo := ih (v + 1) (topStep m xs t v) (by omega) h
    refine Ev.step (fun k => spec_HearRow.l0.eq_2 _ _ _ _ _ _ _ _ _ _) (Ev.pos (by omega) (Ev.bind (specStratum_ev (v : Int) xs hn hy) (Ev.pos (by omega) (Ev.pos (by omega) ?_))))
    rw [rdN, wrapS (Nat.le_of_lt hlt) hm]
    unfold topStep at hgo
    by_cases a : m.getD v 0 = 1
    · rw [if_pos a] at hgo
      refine Ev.pos a ?_
      by_cases b : t < 0
      · rw [if_pos b] at hgo; exact Ev.pos b hgo
      · rw [if_neg b] at hgo
        refine Ev.neg b ?_
        by_cases q : stFrom (v : Int) xs 0 < t
        · rw [if_pos q] at hgo; exact Ev.pos q hgo
        · rw [if_neg q] at hgo; exact Ev.neg q hgo
    · rw [if_neg a] at hgo
      exact Ev.neg a hgo
def hasWin (m own : List Int) : Bool := own.any (fun c => m.getD c.toNat 0 == 1)
theorem implWin_loop (m own : List Int) (hn : own.length ≤ 4611686018427387904) (hx : ∀ c ∈ own, 0 ≤ c ∧ c < (m.length : Int)) : ∀ (d i : Nat), i + d = own.length →
    ∃ t, Ev (fun k => v_slices_IndexFunc__HearRow_1_1.l0 k own [(⟨m⟩ : S34)] (own.length : Int) (i : Int)) t ∧ decide (t ≥ 0) = hasWin m (own.drop i) := by
  intro d
  induction d with
  | zero =>
    intro i hi
    rw [List.drop_of_length_le (by omega)]
    exact ⟨-1, Ev.step (fun k => v_slices_IndexFunc__HearRow_1_1.l0.eq_2 _ _ _ _ _) (Ev.neg (by omega) (Ev.now _)), rfl⟩
  | succ d ih =>
    intro i hi
    have hlt : i < own.length := by omega
    have hb := hx _ (mem_getD own 0 i hlt)
    have hf : Ev (fun _ : Nat => impl_HearRow_1_1.f (rd own (i : Int)) [(⟨m⟩ : S34)]) (m.getD (own.getD i 0).toNat 0 == 1) := by
      unfold impl_HearRow_1_1.f
      rw [rdN]
      exact Ev.pos (by simp) (Ev.pos hb.1 (Ev.pos hb.2 (Ev.now _)))
    have e : hasWin m (own.drop i) = ((m.getD (own.getD i 0).toNat 0 == 1) || hasWin m (own.drop (i + 1))) := by
      rw [drop_cons own 0 i hlt]; rfl
    rw [e]
    by_cases c : (m.getD (own.getD i 0).toNat 0 == 1) = true
    · refine ⟨(i : Int), Ev.step (fun k => v_slices_IndexFunc__HearRow_1_1.l0.eq_2 _ _ _ _ _) (Ev.pos (by omega) (Ev.pos (by omega) (Ev.pos (by omega) (Ev.bind hf (Ev.pos c (Ev.now _)))))), ?_⟩
      rw [c, Bool.true_or]
      exact decide_eq_true (by omega)
    · obtain ⟨t, ht, hq⟩ := ih (i + 1) (by omega)
      refine ⟨t, Ev.step (fun k => v_slices_IndexFunc__HearRow_1_1.l0.eq_2 _ _ _ _ _) (Ev.pos (by omega) (Ev.pos (by omega) (Ev.pos (by omega) (Ev.bind hf (Ev.neg c ?_))))), ?_⟩
      · rw [wrapS (Nat.le_of_lt hlt) hn]; exact ht
      · rw [Bool.eq_false_iff.2 c, Bool.false_or]; exact hq
theorem implWin_ev (m own : List Int) (hn : own.length ≤ 4611686018427387904) (hx : ∀ c ∈ own, 0 ≤ c ∧ c < (m.length : Int)) : Ev (fun k => impl_HearRow_1.f k own [(⟨m⟩ : S34)]) (hasWin m own) := by
  obtain ⟨t, ht, hq⟩ := implWin_loop m own hn hx own.length 0 (by omega)
  rw [List.drop_zero] at hq
  unfold impl_HearRow_1.f
  refine Ev.bind (a := hasWin m own) ?_ (Ev.now _)
  unfold v_slices_ContainsFunc__HearRow_1_1.f
  exact Ev.bind (a := t) ht (Ev.is hq)
def highFrom (m : List Int) : List (List Int) → Nat → Int
  | [], _ => -1
  | y :: ys, i => if hasWin m y = true then (i : Int) else highFrom m ys (i + 1)
theorem implHigh_loop (m : List Int) (xs : List (List Int)) (hn : xs.length ≤ 4611686018427387904) (hy : ∀ y ∈ xs, y.length ≤ 4611686018427387904) (hx : ∀ y ∈ xs, ∀ c ∈ y, 0 ≤ c ∧ c < (m.length : Int)) : ∀ (d i : Nat), i + d = xs.length →
    Ev (fun k => v_slices_IndexFunc__HearRow_1.l0 k xs [(⟨m⟩ : S34)] (xs.length : Int) (i : Int)) (highFrom m (xs.drop i) i) := by
  intro d
  induction d with
  | zero =>
    intro i hi
    rw [List.drop_of_length_le (by omega)]
    exact Ev.step (fun k => v_slices_IndexFunc__HearRow_1.l0.eq_2 _ _ _ _ _) (Ev.neg (by omega) (Ev.now _))
  | succ d ih =>
    intro i hi
    have hlt : i < xs.length := by omega
    have hm := mem_getD xs [] i hlt
    refine Ev.step (fun k => v_slices_IndexFunc__HearRow_1.l0.eq_2 _ _ _ _ _) (Ev.pos (by omega) (Ev.pos (by omega) (Ev.pos (by omega) ?_)))
    rw [show rd_L1 xs (i : Int) = xs.getD i [] from rfl, wrapS (Nat.le_of_lt hlt) hn, drop_cons xs [] i hlt, highFrom]
    refine Ev.bind (implWin_ev m _ (hy _ hm) (hx _ hm)) ?_
    by_cases c : hasWin m (xs.getD i []) = true
    · rw [if_pos c]; exact Ev.pos c (Ev.now _)
    · rw [if_neg c]; exact Ev.neg c (ih (i + 1) (by omega))
theorem implHigh_ev (m : List Int) (xs : List (List Int)) (hn : xs.length ≤ 4611686018427387904) (hy : ∀ y ∈ xs, y.length ≤ 4611686018427387904) (hx : ∀ y ∈ xs, ∀ c ∈ y, 0 ≤ c ∧ c < (m.length : Int)) : Ev (fun k => v_slices_IndexFunc__HearRow_1.f k xs [(⟨m⟩ : S34)]) (highFrom m xs 0) := by
  have := implHigh_loop m xs hn hy hx xs.length 0 (by omega)
  rw [List.drop_zero] at this
  exact this
theorem st_ge (c : Int) : ∀ (ys : List (List Int)) (i : Nat), c ∈ ys.flatten → (i : Int) ≤ stFrom c ys i
  | [], i, h => by simp at h
  | y :: ys, i, h => by
    rw [stFrom]
    by_cases q : decide (c ∈ y) = true
    · rw [if_pos q]; omega
    · rw [if_neg q]
      rw [List.flatten_cons, List.mem_append] at h
      have := st_ge c ys (i + 1) (h.resolve_left (fun h => q (decide_eq_true h)))
      omega
theorem high_char (m : List Int) : ∀ (ys : List (List Int)) (i : Nat), (highFrom m ys i = -1 ∧ ∀ y ∈ ys, hasWin m y = false) ∨
    ((∃ u, m.getD u.toNat 0 = 1 ∧ u ∈ ys.flatten ∧ stFrom u ys i = highFrom m ys i) ∧ (i : Int) ≤ highFrom m ys i ∧ ∀ w, m.getD w.toNat 0 = 1 → w ∈ ys.flatten → highFrom m ys i ≤ stFrom w ys i)
  | [], i => .inl ⟨rfl, fun y h => by cases h⟩
  | y :: ys, i => by
    have no : hasWin m y = false → ∀ c, m.getD c.toNat 0 = 1 → c ∉ y := by
      intro h c hc hm
      have : hasWin m y = true := List.any_eq_true.2 ⟨c, hm, by rw [hc]; rfl⟩
      rw [h] at this
      exact absurd this (by decide)
    by_cases q : hasWin m y = true
    · right
      obtain ⟨c, hc, h1⟩ := List.any_eq_true.1 q
      have e : highFrom m (y :: ys) i = (i : Int) := by rw [highFrom, if_pos q]
      rw [e]
      exact ⟨⟨c, by simpa using h1, by rw [List.flatten_cons, List.mem_append]; exact .inl hc, by rw [stFrom, if_pos (decide_eq_true hc)]⟩, by omega, fun w _ hw => st_ge w (y :: ys) i hw⟩
    · have qf := Bool.eq_false_iff.2 q
      have e : highFrom m (y :: ys) i = highFrom m ys (i + 1) := by rw [highFrom, if_neg q]
      have se : ∀ c, m.getD c.toNat 0 = 1 → stFrom c (y :: ys) i = stFrom c ys (i + 1) := fun c hc => by rw [stFrom, if_neg (by simpa using no qf c hc)]
      rw [e]
      rcases high_char m ys (i + 1) with ⟨h1, h2⟩ | ⟨⟨u, h1, h2, h3⟩, h4, h5⟩
      · exact .inl ⟨h1, fun z hz => by rcases List.mem_cons.1 hz with rfl | hz; exact qf; exact h2 z hz⟩
      · refine .inr ⟨⟨u, h1, by rw [List.flatten_cons, List.mem_append]; exact .inr h2, by rw [se u h1]; exact h3⟩, by omega, fun w hw hf => ?_⟩
        rw [List.flatten_cons, List.mem_append] at hf
        rw [se w hw]
        exact h5 w hw (hf.resolve_left (no qf w hw))
def TopQ (m : List Int) (xs : List (List Int)) (v : Nat) (t : Int) : Prop := (t = -1 ∧ ∀ u : Nat, u < v → m.getD u 0 ≠ 1) ∨ (0 ≤ t ∧ (∃ u : Nat, u < v ∧ m.getD u 0 = 1 ∧ stFrom (u : Int) xs 0 = t) ∧ ∀ u : Nat, u < v → m.getD u 0 = 1 → t ≤ stFrom (u : Int) xs 0)
theorem topFrom_Q (m : List Int) (xs : List (List Int)) (n : Nat) (hall : ∀ u : Nat, u < n → 0 ≤ stFrom (u : Int) xs 0) : ∀ (d v : Nat) (t : Int), v + d = n → TopQ m xs v t → TopQ m xs n (topFrom m xs d v t) := by
  intro d
  induction d with
  | zero => intro v t hv h; rw [show n = v by omega]; exact h
  | succ d ih =>
    intro v t hv h
    refine ih (v + 1) _ (by omega) ?_
    have hv0 := hall v (by omega)
    unfold topStep
    by_cases a : m.getD v 0 = 1
    · rw [if_pos a]
      rcases h with ⟨h1, h2⟩ | ⟨h1, ⟨u, h2, h3, h4⟩, h5⟩
      · rw [if_pos (by omega)]
        refine .inr ⟨hv0, ⟨v, by omega, a, rfl⟩, fun u hu hm => ?_⟩
        rcases Nat.lt_or_eq_of_le (Nat.le_of_lt_succ hu) with hl | rfl
        · exact absurd hm (h2 u hl)
        · exact Int.le_refl _
      · rw [if_neg (by omega)]
        by_cases q : stFrom (v : Int) xs 0 < t
        · rw [if_pos q]
          refine .inr ⟨hv0, ⟨v, by omega, a, rfl⟩, fun u hu hm => ?_⟩
          rcases Nat.lt_or_eq_of_le (Nat.le_of_lt_succ hu) with hl | rfl
          · have := h5 u hl hm; omega
          · exact Int.le_refl _
        · rw [if_neg q]
          refine .inr ⟨h1, ⟨u, by omega, h3, h4⟩, fun u hu hm => ?_⟩
          rcases Nat.lt_or_eq_of_le (Nat.le_of_lt_succ hu) with hl | rfl
          · exact h5 u hl hm
          · omega
    · rw [if_neg a]
      rcases h with ⟨h1, h2⟩ | ⟨h1, ⟨u, h2, h3, h4⟩, h5⟩
      · refine .inl ⟨h1, fun u hu hm => ?_⟩
        rcases Nat.lt_or_eq_of_le (Nat.le_of_lt_succ hu) with hl | rfl
        · exact h2 u hl hm
        · exact a hm
      · refine .inr ⟨h1, ⟨u, by omega, h3, h4⟩, fun w hw hm => ?_⟩
        rcases Nat.lt_or_eq_of_le (Nat.le_of_lt_succ hw) with hl | rfl
        · exact h5 w hl hm
        · exact absurd hm a
theorem top_eq_high (m : List Int) (xs : List (List Int)) (hin : ∀ c ∈ xs.flatten, 0 ≤ c ∧ c < (m.length : Int)) (hall : ∀ u : Nat, u < m.length → (u : Int) ∈ xs.flatten) : topFrom m xs m.length 0 (-1) = highFrom m xs 0 := by
  have hq := topFrom_Q m xs m.length (fun u hu => st_ge (u : Int) xs 0 (hall u hu)) m.length 0 (-1) (by omega) (.inl ⟨rfl, fun u hu => by omega⟩)
  generalize topFrom m xs m.length 0 (-1) = t at hq ⊢
  rcases high_char m xs 0 with ⟨h1, h2⟩ | ⟨⟨u, h1, h2, h3⟩, h4, h5⟩
  · rcases hq with ⟨q1, _⟩ | ⟨_, ⟨w, w1, w2, _⟩, _⟩
    · rw [q1, h1]
    · obtain ⟨y, hy, hw⟩ := List.mem_flatten.1 (hall w w1)
      have : hasWin m y = true := List.any_eq_true.2 ⟨(w : Int), hw, by rw [Int.toNat_natCast, w2]; rfl⟩
      rw [h2 y hy] at this
      exact absurd this (by decide)
  · obtain ⟨b1, b2⟩ := hin u h2
    have hu : ((u.toNat : Nat) : Int) = u := by omega
    rcases hq with ⟨_, q2⟩ | ⟨q1, ⟨w, w1, w2, w3⟩, q3⟩
    · exact absurd h1 (q2 u.toNat (by omega))
    · have e1 := q3 u.toNat (by omega) h1
      rw [hu, h3] at e1
      have e2 := h5 (w : Int) (by rw [Int.toNat_natCast]; exact w2) (hall w w1)
      rw [w3] at e2
      omega
def isDown (m : List Int) (b : Bool) (c : Int) : Bool := b && (m.getD c.toNat 0 == -1)
def mvS (m : List Int) (b : Bool) (own : List Int) : List Int := own.filter (fun c => isDown m b c)
def stS (m : List Int) (b : Bool) (own : List Int) : List Int := own.filter (fun c => !isDown m b c)
def dem (m : List Int) (top : Int) : List (List Int) → Nat → List Int → List (List Int)
  | [], _, _ => []
  | y :: ys, i, mvd => (stS m (decide ((i : Int) ≤ top)) y ++ (if (i : Int) = top + 1 then mvd ++ mvS m (decide ((i : Int) ≤ top)) y else [])) :: dem m top ys (i + 1) (mvd ++ mvS m (decide ((i : Int) ≤ top)) y)
def demMv (m : List Int) (top : Int) : List (List Int) → Nat → List Int → List Int
  | [], _, mvd => mvd
  | y :: ys, i, mvd => demMv m top ys (i + 1) (mvd ++ mvS m (decide ((i : Int) ≤ top)) y)
theorem dem_append (m : List Int) (top : Int) (z : List Int) : ∀ (ys : List (List Int)) (i : Nat) (mvd : List Int), dem m top (ys ++ [z]) i mvd = dem m top ys i mvd ++ dem m top [z] (i + ys.length) (demMv m top ys i mvd)
  | [], i, mvd => rfl
  | y :: ys, i, mvd => by
    show _ :: dem m top (ys ++ [z]) (i + 1) _ = _ :: (dem m top ys (i + 1) _ ++ _)
    rw [dem_append m top z ys (i + 1), show i + 1 + ys.length = i + (y :: ys).length by rw [List.length_cons]; omega]
    rfl
theorem implIn_loop (m : List Int) (top : Int) (i : Nat) (own : List Int) (hn : own.length ≤ 1000) (hx : ∀ c ∈ own, 0 ≤ c ∧ c < (m.length : Int)) (strata zs : List (List Int)) (n e : Int) (xs : List (List Int)) (res : Int × List (List Int) × Int × Bool) (down0 : List Int) (hd : down0.length ≤ 1000000)
    (h : Ev (fun k => impl_HearRow.l1 k top strata (down0 ++ mvS m (decide ((i : Int) ≤ top)) own) (i : Int) (stS m (decide ((i : Int) ≤ top)) own) zs (zs.length : Int) (i : Int) own (own.length : Int) (own.length : Int) n xs e m) res) :
    ∀ (d j : Nat) (down next : List Int), j + d = own.length → down.length ≤ 1000000 + j → next.length ≤ j → down ++ mvS m (decide ((i : Int) ≤ top)) (own.drop j) = down0 ++ mvS m (decide ((i : Int) ≤ top)) own → next ++ stS m (decide ((i : Int) ≤ top)) (own.drop j) = stS m (decide ((i : Int) ≤ top)) own →
      Ev (fun k => impl_HearRow.l1 k top strata down (i : Int) next zs (zs.length : Int) (i : Int) own (own.length : Int) (j : Int) n xs e m) res := by
  intro d
  induction d with
  | zero =>
    intro j down next hj h1 h2 e1 e2
    obtain rfl : j = own.length := by omega
    rw [List.drop_length, show mvS m (decide ((i : Int) ≤ top)) [] = [] from rfl, List.append_nil] at e1
    rw [List.drop_length, show stS m (decide ((i : Int) ≤ top)) [] = [] from rfl, List.append_nil] at e2
    rw [e1, e2]
    exact h
  | succ d ih =>
    intro j down next hj h1 h2 e1 e2
    have hlt : j < own.length := by omega
    have hb := hx _ (mem_getD own 0 j hlt)
    rw [drop_cons own 0 j hlt] at e1 e2
    have dn : isDown m (decide ((i : Int) ≤ top)) (own.getD j 0) = true → Ev (fun k => impl_HearRow.l1 k top strata (down ++ [own.getD j 0]) (i : Int) next zs (zs.length : Int) (i : Int) own (own.length : Int) ((j + 1 : Nat) : Int) n xs e m) res := by
      intro q
      refine ih (j + 1) _ _ (by omega) (by rw [List.length_append, List.length_singleton]; omega) (by omega) ?_ ?_
      · rw [mvS, List.filter_cons, if_pos q] at e1
        rw [List.append_assoc]; exact e1
      · rw [stS, List.filter_cons, if_neg (by rw [q]; decide)] at e2
        exact e2
    have up : ¬ isDown m (decide ((i : Int) ≤ top)) (own.getD j 0) = true → Ev (fun k => impl_HearRow.l1 k top strata down (i : Int) (next ++ [own.getD j 0]) zs (zs.length : Int) (i : Int) own (own.length : Int) ((j + 1 : Nat) : Int) n xs e m) res := by
      intro q
      refine ih (j + 1) _ _ (by omega) (by omega) (by rw [List.length_append, List.length_singleton]; omega) ?_ ?_
      · rw [mvS, List.filter_cons, if_neg q] at e1
        exact e1
      · rw [stS, List.filter_cons, if_pos (by rw [Bool.eq_false_iff.2 q]; rfl)] at e2
        rw [List.append_assoc]; exact e2
    refine Ev.step (fun k => impl_HearRow.l1.eq_2 _ _ _ _ _ _ _ _ _ _ _ _ _ _ _ _) (Ev.pos (by omega) (Ev.pos (by omega) (Ev.pos (by omega) ?_)))
    rw [rdN, wrapS (Nat.le_of_lt hlt) (by omega), show rd m (own.getD j 0) = m.getD (own.getD j 0).toNat 0 from rfl]
    by_cases a : (i : Int) ≤ top
    · refine Ev.pos a (Ev.pos hb.1 (Ev.pos hb.2 ?_))
      by_cases q : m.getD (own.getD j 0).toNat 0 = -1
      · exact Ev.pos q (Ev.pos (by omega) (dn (by unfold isDown; rw [decide_eq_true a, q]; rfl)))
      · exact Ev.neg q (Ev.pos (by omega) (up (by unfold isDown; rw [decide_eq_true a, Bool.true_and, beq_iff_eq]; exact q)))
    · exact Ev.neg a (Ev.pos (by omega) (up (by unfold isDown; rw [decide_eq_false a]; simp)))
def srt (l : List Int) : List Int := l.mergeSort (fun x y => decide (x ≤ y))
def full (l : List (List Int)) : List (List Int) := l.filter (fun r => decide (0 < r.length))
theorem mvS_len (m : List Int) (b : Bool) (own : List Int) : (mvS m b own).length ≤ own.length := List.length_filter_le _ _
theorem stS_len (m : List Int) (b : Bool) (own : List Int) : (stS m b own).length ≤ own.length := List.length_filter_le _ _
theorem implOut_loop (m : List Int) (top : Int) (htop : -1 ≤ top ∧ top ≤ 1000) (zs : List (List Int)) (hz : zs.length ≤ 100) (hn : ∀ y ∈ zs, y.length ≤ 1000) (hx : ∀ y ∈ zs, ∀ c ∈ y, 0 ≤ c ∧ c < (m.length : Int)) (n e : Int) (xs : List (List Int)) :
    ∀ (d i : Nat) (strata : List (List Int)) (down : List Int), i + d = zs.length → strata.length ≤ i → down.length ≤ 1000 * i →
      Ev (fun k => impl_HearRow.l0 k top strata down zs (zs.length : Int) (i : Int) n xs e m) (n, strata ++ (full (dem m top (zs.drop i) i down)).map srt, wrap64 (e + 1), true) := by
  intro d
  induction d with
  | zero =>
    intro i strata down hi hs hd
    rw [List.drop_of_length_le (by omega)]
    exact Ev.step (fun k => impl_HearRow.l0.eq_2 _ _ _ _ _ _ _ _ _ _ _) (Ev.neg (by omega) (Ev.is (by simp [dem, full])))
  | succ d ih =>
    intro i strata down hi hs hd
    have hlt : i < zs.length := by omega
    have hm := mem_getD zs [] i hlt
    have h5 := hn _ hm
    refine Ev.step (fun k => impl_HearRow.l0.eq_2 _ _ _ _ _ _ _ _ _ _ _) (Ev.pos (by omega) (Ev.pos (by omega) (Ev.pos (by omega) ?_)))
    rw [show rd_L1 zs (i : Int) = zs.getD i [] from rfl, drop_cons zs [] i hlt, dem]
    generalize zs.getD i [] = own at hm h5 ⊢
    refine implIn_loop m top i own h5 (hx _ hm) strata zs n e xs _ down (by omega) ?_ own.length 0 down [] (by omega) (by omega) (by simp) (by rw [List.drop_zero]) (by rw [List.drop_zero, List.nil_append])
    have l1 := mvS_len m (decide ((i : Int) ≤ top)) own
    have l2 := stS_len m (decide ((i : Int) ≤ top)) own
    generalize mvS m (decide ((i : Int) ≤ top)) own = mv at l1 ⊢
    generalize stS m (decide ((i : Int) ≤ top)) own = st at l2 ⊢
    have hdl : (down ++ mv).length ≤ 1000 * (i + 1) := by rw [List.length_append]; omega
    refine Ev.step (fun k => impl_HearRow.l1.eq_2 _ _ _ _ _ _ _ _ _ _ _ _ _ _ _ _) (Ev.neg (by omega) ?_)
    rw [wrapI (top + 1) (by omega), wrapS (Nat.le_of_lt hlt) (by omega)]
    have fin : ∀ y : List Int, y.length ≤ 1000000 → Ev (fun k => (slices_Sort_int_int.f y).bind fun t => (if (y.length : Int) > 0 then (if strata.length < 5864062014805 then (impl_HearRow.l0 k top (strata ++ [t]) (down ++ mv) zs (zs.length : Int) ((i + 1 : Nat) : Int) n xs e m) else (none)) else (impl_HearRow.l0 k top strata (down ++ mv) zs (zs.length : Int) ((i + 1 : Nat) : Int) n xs e m)))
        (n, strata ++ (full (y :: dem m top (zs.drop (i + 1)) (i + 1) (down ++ mv))).map srt, wrap64 (e + 1), true) := by
      intro y hy
      refine Ev.bind (a := srt y) (Ev.flat ?_) ?_
      · unfold slices_Sort_int_int.f
        rw [if_pos (by omega)]; rfl
      · by_cases q : 0 < y.length
        · rw [full, List.filter_cons, if_pos (decide_eq_true q), List.map_cons]
          refine Ev.pos (by omega) (Ev.pos (by omega) ?_)
          have := ih (i + 1) (strata ++ [srt y]) (down ++ mv) (by omega) (by rw [List.length_append, List.length_singleton]; omega) hdl
          rw [List.append_assoc] at this
          exact this
        · rw [full, List.filter_cons, if_neg (by simpa using q)]
          exact Ev.neg (by omega) (ih (i + 1) strata (down ++ mv) (by omega) (by omega) hdl)
    by_cases a : (i : Int) = top + 1
    · rw [if_pos a]
      refine Ev.pos a (Ev.pos (by omega) (Ev.bind (Ev.now _) (fin _ (by rw [List.length_append]; omega))))
    · rw [if_neg a, List.append_nil]
      exact Ev.neg a (fin _ (by omega))
theorem specIn_loop (m : List Int) (top : Int) (xs : List (List Int)) (i : Nat) (hi : i < xs.length) (own : List Int) (hown : own = xs.getD i []) (hn : own.length ≤ 1000) (hx : ∀ c ∈ own, 0 ≤ c ∧ c < (m.length : Int)) (strata : List (List Int)) (n e c0 c2 : Int) (c1 : List (List Int)) (res : Int × List (List Int) × Int × Bool) (down0 : List Int) (hd : down0.length ≤ 1000000)
    (h : Ev (fun k => spec_HearRow.l2 k top (down0 ++ mvS m (decide ((i : Int) ≤ top)) own) strata (i : Int) (stS m (decide ((i : Int) ≤ top)) own) (own.length : Int) n xs e m c0 c1 c2) res) :
    ∀ (d j : Nat) (down next : List Int), j + d = own.length → down.length ≤ 1000000 + j → next.length ≤ j → down ++ mvS m (decide ((i : Int) ≤ top)) (own.drop j) = down0 ++ mvS m (decide ((i : Int) ≤ top)) own → next ++ stS m (decide ((i : Int) ≤ top)) (own.drop j) = stS m (decide ((i : Int) ≤ top)) own →
      Ev (fun k => spec_HearRow.l2 k top down strata (i : Int) next (j : Int) n xs e m c0 c1 c2) res := by
  intro d
  induction d with
  | zero =>
    intro j down next hj h1 h2 e1 e2
    obtain rfl : j = own.length := by omega
    rw [List.drop_length, show mvS m (decide ((i : Int) ≤ top)) [] = [] from rfl, List.append_nil] at e1
    rw [List.drop_length, show stS m (decide ((i : Int) ≤ top)) [] = [] from rfl, List.append_nil] at e2
    rw [e1, e2]
    exact h
  | succ d ih =>
    intro j down next hj h1 h2 e1 e2
    have hlt : j < own.length := by omega
    have hb := hx _ (mem_getD own 0 j hlt)
    rw [drop_cons own 0 j hlt] at e1 e2
    have dn : isDown m (decide ((i : Int) ≤ top)) (own.getD j 0) = true → Ev (fun k => spec_HearRow.l2 k top (down ++ [own.getD j 0]) strata (i : Int) next ((j + 1 : Nat) : Int) n xs e m c0 c1 c2) res := by
      intro q
      refine ih (j + 1) _ _ (by omega) (by rw [List.length_append, List.length_singleton]; omega) (by omega) ?_ ?_
      · rw [mvS, List.filter_cons, if_pos q] at e1
        rw [List.append_assoc]; exact e1
      · rw [stS, List.filter_cons, if_neg (by rw [q]; decide)] at e2
        exact e2
    have up : ¬ isDown m (decide ((i : Int) ≤ top)) (own.getD j 0) = true → Ev (fun k => spec_HearRow.l2 k top down strata (i : Int) (next ++ [own.getD j 0]) ((j + 1 : Nat) : Int) n xs e m c0 c1 c2) res := by
      intro q
      refine ih (j + 1) _ _ (by omega) (by omega) (by rw [List.length_append, List.length_singleton]; omega) ?_ ?_
      · rw [mvS, List.filter_cons, if_neg q] at e1
        exact e1
      · rw [stS, List.filter_cons, if_pos (by rw [Bool.eq_false_iff.2 q]; rfl)] at e2
        rw [List.append_assoc]; exact e2
    refine Ev.step (fun k => spec_HearRow.l2.eq_2 _ _ _ _ _ _ _ _ _ _ _ _ _ _) (Ev.pos (by omega) (Ev.pos (by omega) ?_))
    rw [show rd_L1 xs (i : Int) = xs.getD i [] from rfl, ← hown, rdN, wrapS (Nat.le_of_lt hlt) (by omega), show rd m (own.getD j 0) = m.getD (own.getD j 0).toNat 0 from rfl]
    refine Ev.pos (by omega) (Ev.pos (by omega) ?_)
    by_cases a : (i : Int) ≤ top
    · refine Ev.pos a (Ev.pos hb.1 (Ev.pos hb.2 ?_))
      by_cases q : m.getD (own.getD j 0).toNat 0 = -1
      · exact Ev.pos q (Ev.pos (by omega) (dn (by unfold isDown; rw [decide_eq_true a, q]; rfl)))
      · exact Ev.neg q (Ev.pos (by omega) (up (by unfold isDown; rw [decide_eq_true a, Bool.true_and, beq_iff_eq]; exact q)))
    · exact Ev.neg a (Ev.pos (by omega) (up (by unfold isDown; rw [decide_eq_false a]; simp)))
theorem specLast_loop (xs : List (List Int)) (n e c0 c2 : Int) (ws : List (List Int)) (hw : ws.length ≤ 1000) (hy : ∀ y ∈ ws, y.length ≤ 4611686018427387904) : ∀ (d i : Nat) (out : List (List Int)), i + d = ws.length → out.length ≤ i →
    Ev (fun k => spec_HearRow.l3 k ws (i : Int) n xs e c0 out c2) (c0, out ++ (full (ws.drop i)).map sortS, wrap64 (e + 1), true) := by
  intro d
  induction d with
  | zero =>
    intro i out hi ho
    rw [List.drop_of_length_le (by omega)]
    exact Ev.step (fun k => spec_HearRow.l3.eq_2 _ _ _ _ _ _ _ _ _) (Ev.neg (by omega) (Ev.is (by simp [full])))
  | succ d ih =>
    intro i out hi ho
    have hlt : i < ws.length := by omega
    refine Ev.step (fun k => spec_HearRow.l3.eq_2 _ _ _ _ _ _ _ _ _) (Ev.pos (by omega) (Ev.pos (by omega) ?_))
    rw [show rd_L1 ws (i : Int) = ws.getD i [] from rfl, wrapS (Nat.le_of_lt hlt) (by omega), drop_cons ws [] i hlt]
    by_cases q : 0 < (ws.getD i []).length
    · rw [full, List.filter_cons, if_pos (decide_eq_true q), List.map_cons]
      refine Ev.pos (by omega) (Ev.bind (specSorted_ev _ (hy _ (mem_getD ws [] i hlt))) (Ev.pos (by omega) ?_))
      have := ih (i + 1) (out ++ [sortS (ws.getD i [])]) (by omega) (by rw [List.length_append, List.length_singleton]; omega)
      rw [List.append_assoc] at this
      exact this
    · rw [full, List.filter_cons, if_neg (by simpa using q)]
      exact Ev.neg (by omega) (ih (i + 1) out (by omega) (by omega))
theorem specOut_loop (m : List Int) (top : Int) (htop : -1 ≤ top ∧ top ≤ 1000) (xs : List (List Int)) (hz : xs.length ≤ 100) (hn : ∀ y ∈ xs, y.length ≤ 1000) (hx : ∀ y ∈ xs, ∀ c ∈ y, 0 ≤ c ∧ c < (m.length : Int)) (n e c0 c2 : Int) (c1 : List (List Int)) (res : Int × List (List Int) × Int × Bool) :
    ∀ (d i : Nat) (strata : List (List Int)) (down : List Int), i + d = xs.length → strata.length ≤ i → down.length ≤ 1000 * i →
      Ev (fun k => if (top + 1) = (xs.length : Int) then (if (strata ++ dem m top (xs.drop i) i down).length < 5864062014805 then (spec_HearRow.j4 k ((strata ++ dem m top (xs.drop i) i down) ++ [demMv m top (xs.drop i) i down]) n xs e c0 c1 c2) else (none)) else (spec_HearRow.j4 k (strata ++ dem m top (xs.drop i) i down) n xs e c0 c1 c2)) res →
      Ev (fun k => spec_HearRow.l1 k top down strata (i : Int) n xs e m c0 c1 c2) res := by
  intro d
  induction d with
  | zero =>
    intro i strata down hi hs hd h
    rw [List.drop_of_length_le (by omega)] at h
    rw [show dem m top [] i down = [] from rfl, show demMv m top [] i down = down from rfl, List.append_nil] at h
    refine Ev.step (fun k => spec_HearRow.l1.eq_2 _ _ _ _ _ _ _ _ _ _ _ _) (Ev.neg (by omega) ?_)
    rw [wrapI (top + 1) (by omega)]
    exact h
  | succ d ih =>
    intro i strata down hi hs hd h
    have hlt : i < xs.length := by omega
    have hm := mem_getD xs [] i hlt
    have h5 := hn _ hm
    rw [drop_cons xs [] i hlt, dem, demMv] at h
    refine Ev.step (fun k => spec_HearRow.l1.eq_2 _ _ _ _ _ _ _ _ _ _ _ _) (Ev.pos (by omega) ?_)
    obtain ⟨own, hown⟩ : ∃ o, o = xs.getD i [] := ⟨_, rfl⟩
    rw [← hown] at h hm h5
    refine specIn_loop m top xs i hlt own hown h5 (hx _ hm) strata n e c0 c2 c1 _ down (by omega) ?_ own.length 0 down [] (by omega) (by omega) (by simp) (by rw [List.drop_zero]) (by rw [List.drop_zero, List.nil_append])
    have l1 := mvS_len m (decide ((i : Int) ≤ top)) own
    have l2 := stS_len m (decide ((i : Int) ≤ top)) own
    generalize mvS m (decide ((i : Int) ≤ top)) own = mv at l1 h ⊢
    generalize stS m (decide ((i : Int) ≤ top)) own = st at l2 h ⊢
    have hdl : (down ++ mv).length ≤ 1000 * (i + 1) := by rw [List.length_append]; omega
    refine Ev.step (fun k => spec_HearRow.l2.eq_2 _ _ _ _ _ _ _ _ _ _ _ _ _ _) (Ev.pos (by omega) (Ev.pos (by omega) ?_))
    rw [show rd_L1 xs (i : Int) = xs.getD i [] from rfl, ← hown, wrapI (top + 1) (by omega), wrapS (Nat.le_of_lt hlt) (by omega)]
    refine Ev.neg (by omega) ?_
    have fin : ∀ y : List Int, (strata ++ y :: dem m top (xs.drop (i + 1)) (i + 1) (down ++ mv)) = (strata ++ [y]) ++ dem m top (xs.drop (i + 1)) (i + 1) (down ++ mv) := fun y => by rw [List.append_assoc]; rfl
    by_cases a : (i : Int) = top + 1
    · rw [if_pos a] at h
      rw [fin] at h
      exact Ev.pos a (Ev.pos (by omega) (Ev.pos (by omega) (ih (i + 1) _ (down ++ mv) (by omega) (by rw [List.length_append, List.length_singleton]; omega) hdl h)))
    · rw [if_neg a, List.append_nil] at h
      rw [fin] at h
      exact Ev.neg a (Ev.pos (by omega) (ih (i + 1) _ (down ++ mv) (by omega) (by rw [List.length_append, List.length_singleton]; omega) hdl h))
theorem demote_same (m : List Int) (top : Int) (xs : List (List Int)) : full (dem m top (xs ++ [[]]) 0 []) = full (if top + 1 = (xs.length : Int) then dem m top xs 0 [] ++ [demMv m top xs 0 []] else dem m top xs 0 []) := by
  rw [dem_append, Nat.zero_add]
  generalize demMv m top xs 0 [] = M
  have e : dem m top [[]] xs.length M = [if top + 1 = (xs.length : Int) then M else []] := by
    by_cases a : top + 1 = (xs.length : Int)
    · rw [if_pos a]
      show [[] ++ (if (xs.length : Int) = top + 1 then M ++ [] else [])] = [M]
      rw [if_pos a.symm, List.append_nil, List.nil_append]
    · rw [if_neg a]
      show [[] ++ (if (xs.length : Int) = top + 1 then M ++ [] else [])] = [[]]
      rw [if_neg (fun h => a h.symm), List.nil_append]
  rw [e]
  by_cases a : top + 1 = (xs.length : Int)
  · rw [if_pos a, if_pos a]
  · rw [if_neg a, if_neg a]
    simp [full]
theorem dem_len (m : List Int) (top : Int) : ∀ (ys : List (List Int)) (i : Nat) (mvd : List Int), (dem m top ys i mvd).length = ys.length
  | [], _, _ => rfl
  | y :: ys, i, mvd => by
    rw [dem, List.length_cons, List.length_cons, dem_len m top ys]
theorem specDemote_ev (m : List Int) (top : Int) (htop : -1 ≤ top ∧ top ≤ 1000) (xs : List (List Int)) (hz : xs.length ≤ 100) (hn : ∀ y ∈ xs, y.length ≤ 1000) (hx : ∀ y ∈ xs, ∀ c ∈ y, 0 ≤ c ∧ c < (m.length : Int)) (n e c0 c2 : Int) (c1 : List (List Int))
    (hy : ∀ y ∈ (if top + 1 = (xs.length : Int) then dem m top xs 0 [] ++ [demMv m top xs 0 []] else dem m top xs 0 []), y.length ≤ 4611686018427387904) :
    Ev (fun k => spec_HearRow.l1 k top [] [] 0 n xs e m c0 c1 c2) (c0, (full (if top + 1 = (xs.length : Int) then dem m top xs 0 [] ++ [demMv m top xs 0 []] else dem m top xs 0 [])).map sortS, wrap64 (e + 1), true) := by
  have hl := dem_len m top xs 0 []
  refine specOut_loop m top htop xs hz hn hx n e c0 c2 c1 _ xs.length 0 [] [] (by omega) (by simp) (by simp) ?_
  rw [List.drop_zero, List.nil_append]
  generalize dem m top xs 0 [] = D at hl hy ⊢
  generalize demMv m top xs 0 [] = M at hy ⊢
  by_cases a : top + 1 = (xs.length : Int)
  · rw [if_pos a] at hy ⊢
    refine Ev.pos a (Ev.pos (by omega) (Ev.step (fun k => spec_HearRow.j4.eq_2 _ _ _ _ _ _ _ _) ?_))
    have := specLast_loop xs n e c0 c2 (D ++ [M]) (by rw [List.length_append, List.length_singleton]; omega) hy (D ++ [M]).length 0 [] (by omega) (by simp)
    rw [List.drop_zero, List.nil_append] at this
    exact this
  · rw [if_neg a] at hy ⊢
    refine Ev.neg a (Ev.step (fun k => spec_HearRow.j4.eq_2 _ _ _ _ _ _ _ _) ?_)
    have := specLast_loop xs n e c0 c2 D (by omega) hy D.length 0 [] (by omega) (by simp)
    rw [List.drop_zero, List.nil_append] at this
    exact this
theorem dem_rows (m : List Int) (top : Int) : ∀ (ys : List (List Int)) (i : Nat) (mvd : List Int), (mvd ++ ys.flatten).Nodup → (∀ y ∈ dem m top ys i mvd, y.Nodup ∧ ∀ c ∈ y, c ∈ mvd ++ ys.flatten) ∧ (demMv m top ys i mvd).Nodup ∧ ∀ c ∈ demMv m top ys i mvd, c ∈ mvd ++ ys.flatten
  | [], i, mvd, h => ⟨fun y hy => absurd hy (by simp [dem]), (by simpa [demMv] using h), fun c hc => (by simpa [demMv] using hc)⟩
  | y :: ys, i, mvd, h => by
    rw [List.flatten_cons] at h ⊢
    have hp : (mvS m (decide ((i : Int) ≤ top)) y ++ stS m (decide ((i : Int) ≤ top)) y).Perm y := List.filter_append_perm _ y
    have hs1 : (mvS m (decide ((i : Int) ≤ top)) y).Sublist y := List.filter_sublist
    have hs2 : (stS m (decide ((i : Int) ≤ top)) y).Sublist y := List.filter_sublist
    rw [dem, demMv]
    generalize mvS m (decide ((i : Int) ≤ top)) y = mv at hp hs1 ⊢
    generalize stS m (decide ((i : Int) ≤ top)) y = st at hp hs2 ⊢
    have hsub : ((mvd ++ mv) ++ ys.flatten).Sublist (mvd ++ (y ++ ys.flatten)) := by
      rw [List.append_assoc]
      exact List.Sublist.append (List.Sublist.refl _) (List.Sublist.append hs1 (List.Sublist.refl _))
    obtain ⟨a1, a2, a3⟩ := dem_rows m top ys (i + 1) (mvd ++ mv) (hsub.nodup h)
    have hmy : (mvd ++ y).Nodup := List.Sublist.nodup (List.Sublist.append (List.Sublist.refl mvd) (List.sublist_append_left y _)) h
    refine ⟨fun z hz => ?_, a2, fun c hc => hsub.subset (a3 c hc)⟩
    rcases List.mem_cons.1 hz with rfl | hz
    · by_cases q : (i : Int) = top + 1
      · rw [if_pos q]
        have pp : (st ++ (mvd ++ mv)).Perm (mvd ++ y) := by
          refine List.Perm.trans List.perm_append_comm ?_
          rw [List.append_assoc]
          exact List.Perm.append_left mvd hp
        refine ⟨pp.nodup_iff.2 hmy, fun c hc => ?_⟩
        have := pp.mem_iff.1 hc
        rcases List.mem_append.1 this with h1 | h1
        · exact List.mem_append.2 (.inl h1)
        · exact List.mem_append.2 (.inr (List.mem_append.2 (.inl h1)))
      · rw [if_neg q, List.append_nil]
        exact ⟨hs2.nodup (List.nodup_append.1 hmy).2.1, fun c hc => List.mem_append.2 (.inr (List.mem_append.2 (.inl (hs2.subset hc))))⟩
    · exact ⟨(a1 z hz).1, fun c hc => hsub.subset ((a1 z hz).2 c hc)⟩
theorem demote_ans (m : List Int) (top : Int) (xs : List (List Int)) (hd : xs.flatten.Nodup) (hx : ∀ c ∈ xs.flatten, 0 ≤ c ∧ c < 5) : (full (dem m top (xs ++ [[]]) 0 [])).map srt = (full (if top + 1 = (xs.length : Int) then dem m top xs 0 [] ++ [demMv m top xs 0 []] else dem m top xs 0 [])).map sortS := by
  rw [← demote_same]
  have hf : ([] ++ (xs ++ [[]]).flatten : List Int) = xs.flatten := by simp
  obtain ⟨a1, _, _⟩ := dem_rows m top (xs ++ [[]]) 0 [] (by rw [hf]; exact hd)
  refine List.map_congr_left (fun y hy => ?_)
  obtain ⟨b1, b2⟩ := a1 y (List.mem_filter.1 hy).1
  exact sort_eq y b1 (fun c hc => hx c (by have := b2 c hc; rwa [hf] at this))
def isRank (l : List Int) (n : Int) : Bool := decide (1 ≤ n ∧ n ≤ 5 ∧ (l.length : Int) = n ∧ l.Nodup ∧ ∀ x ∈ l, 0 ≤ x ∧ x < n)
theorem l1In_ev (a b c : Int) : Ev (fun _ => spec_l1In.f a b c) (decide (b ≤ a ∧ a ≤ c)) := by
  refine Ev.flat ?_
  unfold spec_l1In.f
  by_cases h : b ≤ a <;> simp [h]
theorem within_ev (a b c : Int) : Ev (fun _ => impl_within.f a b c) (decide (b ≤ a ∧ a ≤ c)) := by
  refine Ev.flat ?_
  unfold impl_within.f
  by_cases h : b ≤ a <;> simp [h]
theorem specIsRanking_loop (l : List Int) (n : Int) (hn : l.length ≤ 4611686018427387904) : ∀ (d i : Nat), i + d = l.length → (l.take i).Nodup → (∀ x ∈ l.take i, 0 ≤ x ∧ x < n) → Ev (fun k => spec_IsRanking.l0 k l n (i : Int)) (isRank l n) := by
  intro d
  induction d with
  | zero =>
    intro i hi hd hx
    rw [List.take_of_length_le (by omega)] at hd hx
    refine Ev.step (fun k => spec_IsRanking.l0.eq_2 _ _ _ _) (Ev.neg (by omega) (Ev.bind (l1In_ev _ _ _) ?_))
    by_cases h : 1 ≤ n ∧ n ≤ 5
    · refine Ev.pos (by simpa using h) (Ev.is ?_)
      unfold isRank
      by_cases e : (l.length : Int) = n
      · rw [decide_eq_true ⟨h.1, h.2, e, hd, hx⟩]; simpa using e
      · rw [decide_eq_false (fun z => e z.2.2.1)]; simpa using e
    · refine Ev.neg (by simpa using h) (Ev.is ?_)
      unfold isRank
      rw [decide_eq_false (fun z => h ⟨z.1, z.2.1⟩)]
  | succ d ih =>
    intro i hi hd hx
    have hlt : i < l.length := by omega
    refine Ev.step (fun k => spec_IsRanking.l0.eq_2 _ _ _ _) (Ev.pos (by omega) (Ev.pos (by omega) ?_))
    rw [wrapS (Nat.le_of_lt hlt) hn, rdN, Int.toNat_natCast]
    have no : ∀ {p : Prop}, ¬ p → (isRank l n = true → p) → Ev (fun _ => some false) (isRank l n) := fun hp k => Ev.is (by
      cases e : isRank l n with
      | false => rfl
      | true => exact absurd (k e) hp)
    by_cases c : l.getD i 0 < 0
    · exact Ev.pos c (no (p := 0 ≤ l.getD i 0) (by omega) (fun h => ((of_decide_eq_true h).2.2.2.2 _ (mem_getD l 0 i hlt)).1))
    · refine Ev.neg c ?_
      by_cases c' : l.getD i 0 ≥ n
      · exact Ev.pos c' (no (p := l.getD i 0 < n) (by omega) (fun h => ((of_decide_eq_true h).2.2.2.2 _ (mem_getD l 0 i hlt)).2))
      · refine Ev.neg c' (Ev.pos (by omega) (Ev.bind (l12Has_ev _ _ (by rw [List.length_take]; omega)) ?_))
        have hnd : l.Nodup → ¬ l.getD i 0 ∈ l.take i := fun h hm => by
          have := h.sublist (List.take_sublist (i + 1) l)
          rw [take_succ' l 0 i hlt, List.nodup_append] at this
          exact this.2.2 _ hm _ (List.mem_singleton.2 rfl) rfl
        by_cases c2 : l.getD i 0 ∈ l.take i
        · exact Ev.pos (decide_eq_true c2) (no (p := ¬ l.getD i 0 ∈ l.take i) (fun h => h c2) (fun h => hnd (of_decide_eq_true h).2.2.2.1))
        · refine Ev.neg (by simpa using c2) (ih (i + 1) (by omega) ?_ ?_)
          · rw [take_succ' l 0 i hlt, List.nodup_append]
            exact ⟨hd, by simp, fun a ha b hb e => c2 (by rw [List.mem_singleton.1 hb] at e; rw [← e]; exact ha)⟩
          · rw [take_succ' l 0 i hlt]
            intro x hm
            rcases List.mem_append.1 hm with hm | hm
            · exact hx x hm
            · rw [List.mem_singleton.1 hm]; exact ⟨by omega, by omega⟩
theorem specIsRanking_ev (l : List Int) (n : Int) (hn : l.length ≤ 4611686018427387904) : Ev (fun k => spec_IsRanking.f k l n) (isRank l n) :=
  specIsRanking_loop l n hn l.length 0 (by omega) (by simp) (fun _ h => by cases h)
theorem isStrict_ev (m : List Int) (n : Int) (hm : m.length ≤ 4611686018427387904) (hn : 1 ≤ n ∧ n ≤ 4611686018427387904) (b : Bool) (hb : b = true ↔ (∀ j, 0 ≤ j → j < m.length → (0 ≤ m.getD j 0 ∧ m.getD j 0 < n) ∧ (0 < j → m.getD (j - 1) 0 < m.getD j 0))) : Ev (fun k => impl_isStrict.f k m n) b := by
  unfold impl_isStrict.f
  refine all_loop (fun k i => impl_isStrict.l0 k m n m (m.length : Int) i) m.length (fun j => (0 ≤ m.getD j 0 ∧ m.getD j 0 < n) ∧ (0 < j → m.getD (j - 1) 0 < m.getD j 0)) true (fun i hi r h h' => ?_) (Ev.step (fun k => impl_isStrict.l0.eq_2 _ _ _ _ _ _) (Ev.neg (by omega) (Ev.now _))) m.length 0 (by omega) b (hb.trans ⟨fun h => ⟨h, rfl⟩, fun h => h.1⟩)
  refine Ev.step (fun k => impl_isStrict.l0.eq_2 _ _ _ _ _ _) (Ev.pos (by omega) (Ev.pos (by omega) (Ev.pos (by omega) (Ev.bind (within_ev _ _ _) ?_))))
  rw [wrapS (Nat.le_of_lt hi) hm, wrapI (n - 1) (by omega), rdN]
  by_cases c : 0 ≤ m.getD i 0 ∧ m.getD i 0 < n
  · refine Ev.pos (decide_eq_true ⟨c.1, by omega⟩) ?_
    by_cases c0 : 0 < i
    · have e : wrap64 ((i : Int) - 1) = ((i - 1 : Nat) : Int) := by rw [wrapI _ (by omega)]; omega
      refine Ev.pos (by omega) ?_
      rw [e]
      refine Ev.pos (by omega) (Ev.pos (by omega) ?_)
      rw [rdN]
      by_cases c1 : m.getD i 0 ≤ m.getD (i - 1) 0
      · exact Ev.pos c1 (Ev.is (h' (fun z => by have := z.2 c0; omega)).symm)
      · exact Ev.neg c1 (h ⟨c, fun _ => by omega⟩)
    · exact Ev.neg (by omega) (h ⟨c, fun z => absurd z c0⟩)
  · exact Ev.neg (by simp only [decide_eq_true_eq]; omega) (Ev.is (h' (fun z => c z.1)).symm)
theorem sorted_strict (l : List Int) : (∀ j, 0 < j → j < l.length → (l.mergeSort (fun x y => decide (x ≤ y))).getD (j - 1) 0 < (l.mergeSort (fun x y => decide (x ≤ y))).getD j 0) ↔ l.Nodup := by
  have hp := List.mergeSort_perm l (fun x y => decide (x ≤ y))
  have hs := List.pairwise_mergeSort (le := fun x y : Int => decide (x ≤ y)) (fun a b c h1 h2 => by simp only [decide_eq_true_eq] at *; omega) (fun a b => by simp only [Bool.or_eq_true, decide_eq_true_eq]; omega) l
  have hlen := hp.length_eq
  rw [← hp.nodup_iff]
  generalize hm : l.mergeSort (fun x y => decide (x ≤ y)) = m at *
  rw [List.pairwise_iff_getElem] at hs
  simp only [decide_eq_true_eq] at hs
  unfold List.Nodup
  rw [List.pairwise_iff_getElem]
  constructor
  · intro h i j hi hj hij e
    have h1 := h j (by omega) (by omega)
    rw [getD_at _ _ _ hj, getD_at _ _ _ (show j - 1 < m.length by omega)] at h1
    rcases Nat.lt_or_ge i (j - 1) with h2 | h2
    · have := hs i (j - 1) hi (by omega) h2; omega
    · obtain rfl : i = j - 1 := by omega
      omega
  · intro h j h0 hj
    have hj' : j < m.length := by omega
    have h1 := hs (j - 1) j (by omega) hj' (by omega)
    have h2 := h (j - 1) j (by omega) hj' (by omega)
    rw [getD_at _ _ _ hj', getD_at _ _ _ (show j - 1 < m.length by omega)]
    omega
theorem implIsRanking_ev (l : List Int) (n : Int) : Ev (fun k => impl_IsRanking.f k l n) (isRank l n) := by
  unfold impl_IsRanking.f
  refine Ev.bind (within_ev _ _ _) ?_
  by_cases h : 1 ≤ n ∧ n ≤ 5
  · refine Ev.pos (by simpa using h) ?_
    by_cases e : (l.length : Int) = n
    · refine Ev.pos e (isStrict_ev _ n (by rw [List.length_mergeSort]; omega) (by omega) _ ?_)
      unfold isRank
      rw [decide_eq_true_eq, List.length_mergeSort]
      constructor
      · rintro ⟨_, _, _, hd, hx⟩ j _ hj
        exact ⟨hx _ (List.mem_mergeSort.1 (mem_getD _ 0 j (by rw [List.length_mergeSort]; exact hj))), fun h0 => (sorted_strict l).2 hd j h0 hj⟩
      · intro H
        refine ⟨h.1, h.2, e, (sorted_strict l).1 (fun j h0 hj => (H j (by omega) hj).2 h0), fun x hx => ?_⟩
        obtain ⟨j, hj, rfl⟩ := List.getElem_of_mem (List.mem_mergeSort (le := fun x y : Int => decide (x ≤ y)).2 hx)
        have := (H j (by omega) (by rw [List.length_mergeSort] at hj; exact hj)).1
        rwa [getD_at _ _ _ hj] at this
    · refine Ev.neg e (Ev.is ?_)
      unfold isRank
      rw [decide_eq_false (fun z => e z.2.2.1)]
  · refine Ev.neg (by simpa using h) (Ev.is ?_)
    unfold isRank
    rw [decide_eq_false (fun z => h ⟨z.1, z.2.1⟩)]
def areStrata (xs : List (List Int)) (n : Int) : Bool := decide (∀ y ∈ xs, y ≠ []) && isRank xs.flatten n
theorem flatten_len (xs : List (List Int)) (m : Nat) (h : ∀ y ∈ xs, y.length ≤ m) : xs.flatten.length ≤ xs.length * m := by
  induction xs with
  | nil => simp
  | cons y ys ih =>
    rw [List.flatten_cons, List.length_append, List.length_cons, Nat.succ_mul]
    have := ih (fun z hz => h z (List.mem_cons_of_mem _ hz))
    have := h y (List.mem_cons_self ..)
    omega
theorem take_flatten (xs : List (List Int)) (i : Nat) (h : i < xs.length) : (xs.take (i + 1)).flatten = (xs.take i).flatten ++ xs.getD i [] := by
  rw [take_succ' xs [] i h, List.flatten_append]; simp
theorem sub_flatten (xs : List (List Int)) (i : Nat) : (xs.take i).flatten.length ≤ xs.flatten.length := by
  have h : xs.flatten = (xs.take i).flatten ++ (xs.drop i).flatten := by rw [← List.flatten_append, List.take_append_drop]
  rw [h, List.length_append]; omega
theorem areStrata_no (xs : List (List Int)) (n : Int) (i : Nat) (h : i < xs.length) (e : (xs.getD i []).length = 0) : areStrata xs n = false := by
  unfold areStrata
  rw [decide_eq_false (fun z => z _ (mem_getD xs [] i h) (List.eq_nil_of_length_eq_zero e)), Bool.false_and]
theorem specAreStrata_loop (xs : List (List Int)) (n : Int) (hn : xs.length ≤ 4611686018427387904) (hf : xs.flatten.length < 17592186044416) : ∀ (d i : Nat), i + d = xs.length → (∀ y ∈ xs.take i, y ≠ []) →
    Ev (fun k => spec_AreStrata.l0 k xs n (xs.take i).flatten (i : Int)) (areStrata xs n) := by
  intro d
  induction d with
  | zero =>
    intro i hi hy
    rw [List.take_of_length_le (by omega)] at *
    refine Ev.step (fun k => spec_AreStrata.l0.eq_2 _ _ _ _ _) (Ev.neg (by omega) (Ev.bind (specIsRanking_ev _ _ (by omega)) (Ev.is ?_)))
    unfold areStrata
    rw [decide_eq_true hy, Bool.true_and]
  | succ d ih =>
    intro i hi hy
    have hlt : i < xs.length := by omega
    have hs := sub_flatten xs (i + 1)
    rw [take_flatten xs i hlt, List.length_append] at hs
    refine Ev.step (fun k => spec_AreStrata.l0.eq_2 _ _ _ _ _) (Ev.pos (by omega) (Ev.pos (by omega) ?_))
    rw [wrapS (Nat.le_of_lt hlt) hn, show rd_L1 xs (i : Int) = xs.getD i [] from rfl]
    by_cases c : (xs.getD i []).length = 0
    · exact Ev.pos (by omega) (Ev.is (areStrata_no xs n i hlt c).symm)
    · refine Ev.neg (by omega) (Ev.pos (by omega) ?_)
      rw [← take_flatten xs i hlt]
      refine ih (i + 1) (by omega) (fun y hm => ?_)
      rw [take_succ' xs [] i hlt] at hm
      rcases List.mem_append.1 hm with hm | hm
      · exact hy y hm
      · rw [List.mem_singleton.1 hm]; exact fun z => c (by rw [z]; rfl)
theorem specAreStrata_ev (xs : List (List Int)) (n : Int) (hn : xs.length ≤ 4611686018427387904) (hf : xs.flatten.length < 17592186044416) : Ev (fun k => spec_AreStrata.f k xs n) (areStrata xs n) := by
  have := specAreStrata_loop xs n hn hf xs.length 0 (by omega) (fun _ h => by cases h)
  unfold spec_AreStrata.f
  simpa using this
theorem concat_l1 (xs : List (List Int)) (hn : xs.length ≤ 4611686018427387904) (hf : xs.flatten.length < 17592186044416) : ∀ (d i : Nat), i + d = xs.length →
    Ev (fun k => slices_Concat_int_int.l1 k (xs.take i).flatten xs (xs.length : Int) (i : Int)) xs.flatten := by
  intro d
  induction d with
  | zero =>
    intro i hi
    rw [List.take_of_length_le (by omega)]
    exact Ev.step (fun k => slices_Concat_int_int.l1.eq_2 _ _ _ _ _) (Ev.neg (by omega) (Ev.now _))
  | succ d ih =>
    intro i hi
    have hlt : i < xs.length := by omega
    have hs := sub_flatten xs (i + 1)
    rw [take_flatten xs i hlt, List.length_append] at hs
    refine Ev.step (fun k => slices_Concat_int_int.l1.eq_2 _ _ _ _ _) (Ev.pos (by omega) (Ev.pos (by omega) (Ev.pos (by omega) ?_)))
    rw [wrapS (Nat.le_of_lt hlt) hn, show rd_L1 xs (i : Int) = xs.getD i [] from rfl]
    refine Ev.pos (by omega) ?_
    rw [← take_flatten xs i hlt]
    exact ih (i + 1) (by omega)
theorem concat_l0 (xs : List (List Int)) (hn : xs.length ≤ 4611686018427387904) (hf : xs.flatten.length < 17592186044416) : ∀ (d i : Nat), i + d = xs.length →
    Ev (fun k => slices_Concat_int_int.l0 k xs (((xs.take i).flatten.length : Nat) : Int) xs (xs.length : Int) (i : Int)) xs.flatten := by
  intro d
  induction d with
  | zero =>
    intro i hi
    rw [List.take_of_length_le (by omega)]
    refine Ev.step (fun k => slices_Concat_int_int.l0.eq_2 _ _ _ _ _ _) (Ev.neg (by omega) (Ev.bind (a := []) (Ev.flat ?_) ?_))
    · unfold v_slices_GrowNil_int.f; rw [if_pos (by omega)]
    · have := concat_l1 xs hn hf xs.length 0 (by omega)
      simpa using this
  | succ d ih =>
    intro i hi
    have hlt : i < xs.length := by omega
    have hs := sub_flatten xs (i + 1)
    have hl := take_flatten xs i hlt
    have hl2 : (xs.take (i + 1)).flatten.length = (xs.take i).flatten.length + (xs.getD i []).length := by rw [hl, List.length_append]
    have e : wrap64 ((((xs.take i).flatten.length : Nat) : Int) + ((xs.getD i []).length : Int)) = (((xs.take (i + 1)).flatten.length : Nat) : Int) := by rw [wrapI _ (by omega)]; omega
    refine Ev.step (fun k => slices_Concat_int_int.l0.eq_2 _ _ _ _ _ _) (Ev.pos (by omega) (Ev.pos (by omega) (Ev.pos (by omega) ?_)))
    rw [wrapS (Nat.le_of_lt hlt) hn, show rd_L1 xs (i : Int) = xs.getD i [] from rfl, e]
    exact Ev.neg (by omega) (ih (i + 1) (by omega))
theorem concat_ev (xs : List (List Int)) (hn : xs.length ≤ 4611686018427387904) (hf : xs.flatten.length < 17592186044416) : Ev (fun k => slices_Concat_int_int.f k xs) xs.flatten := by
  have := concat_l0 xs hn hf xs.length 0 (by omega)
  unfold slices_Concat_int_int.f
  simpa using this
theorem implAreStrata_loop (xs : List (List Int)) (n : Int) (hn : xs.length ≤ 4611686018427387904) (hf : xs.flatten.length < 17592186044416) : ∀ (d i : Nat), i + d = xs.length → (∀ y ∈ xs.take i, y ≠ []) →
    Ev (fun k => impl_AreStrata.l0 k xs n xs (xs.length : Int) (i : Int)) (areStrata xs n) := by
  intro d
  induction d with
  | zero =>
    intro i hi hy
    rw [List.take_of_length_le (by omega)] at *
    refine Ev.step (fun k => impl_AreStrata.l0.eq_2 _ _ _ _ _ _) (Ev.neg (by omega) (Ev.bind (concat_ev xs hn hf) (Ev.bind (implIsRanking_ev _ _) (Ev.is ?_))))
    unfold areStrata
    rw [decide_eq_true hy, Bool.true_and]
  | succ d ih =>
    intro i hi hy
    have hlt : i < xs.length := by omega
    refine Ev.step (fun k => impl_AreStrata.l0.eq_2 _ _ _ _ _ _) (Ev.pos (by omega) (Ev.pos (by omega) (Ev.pos (by omega) ?_)))
    rw [wrapS (Nat.le_of_lt hlt) hn, show rd_L1 xs (i : Int) = xs.getD i [] from rfl]
    by_cases c : (xs.getD i []).length = 0
    · exact Ev.pos (by omega) (Ev.is (areStrata_no xs n i hlt c).symm)
    · refine Ev.neg (by omega) (ih (i + 1) (by omega) (fun y hm => ?_))
      rw [take_succ' xs [] i hlt] at hm
      rcases List.mem_append.1 hm with hm | hm
      · exact hy y hm
      · rw [List.mem_singleton.1 hm]; exact fun z => c (by rw [z]; rfl)
theorem implAreStrata_ev (xs : List (List Int)) (n : Int) (hn : xs.length ≤ 4611686018427387904) (hf : xs.flatten.length < 17592186044416) : Ev (fun k => impl_AreStrata.f k xs n) (areStrata xs n) := by
  have := implAreStrata_loop xs n hn hf xs.length 0 (by omega) (fun _ h => by cases h)
  unfold impl_AreStrata.f
  simpa using this
def isRow (m : List Int) (n : Int) : Bool := decide ((∀ x ∈ m, -1 ≤ x ∧ x ≤ 1) ∧ 1 ≤ n ∧ n ≤ 5 ∧ (m.length : Int) = n)
theorem isRow_end (m : List Int) (n : Int) (ht : ∀ x ∈ m, -1 ≤ x ∧ x ≤ 1) (g : Nat → Option Bool) (hg : ∀ k, g k = (if decide (1 ≤ n ∧ n ≤ 5) = true then (some ((m.length : Int) == n)) else (some false))) : Ev g (isRow m n) := by
  refine Ev.congr hg ?_
  by_cases h : 1 ≤ n ∧ n ≤ 5
  · refine Ev.pos (by simpa using h) (Ev.is ?_)
    unfold isRow
    by_cases e : (m.length : Int) = n
    · rw [decide_eq_true ⟨ht, h.1, h.2, e⟩]; simpa using e
    · rw [decide_eq_false (fun z => e z.2.2.2)]; simpa using e
  · refine Ev.neg (by simpa using h) (Ev.is ?_)
    unfold isRow
    rw [decide_eq_false (fun z => h ⟨z.2.1, z.2.2.1⟩)]
theorem specIsRow_loop (m : List Int) (n : Int) (hn : m.length ≤ 4611686018427387904) : ∀ (d i : Nat), i + d = m.length → (∀ x ∈ m.take i, -1 ≤ x ∧ x ≤ 1) → Ev (fun k => spec_IsRow.l0 k n (i : Int) m) (isRow m n) := by
  intro d
  induction d with
  | zero =>
    intro i hi ht
    rw [List.take_of_length_le (by omega)] at ht
    exact Ev.step (fun k => spec_IsRow.l0.eq_2 _ _ _ _) (Ev.neg (by omega) (Ev.bind (l1In_ev _ _ _) (isRow_end m n ht _ (fun _ => rfl))))
  | succ d ih =>
    intro i hi ht
    have hlt : i < m.length := by omega
    refine Ev.step (fun k => spec_IsRow.l0.eq_2 _ _ _ _) (Ev.pos (by omega) (Ev.pos (by omega) (Ev.bind (l1In_ev _ _ _) ?_)))
    rw [wrapS (Nat.le_of_lt hlt) hn, rdN]
    by_cases h : -1 ≤ m.getD i 0 ∧ m.getD i 0 ≤ 1
    · refine Ev.pos (by simpa using h) (ih (i + 1) (by omega) ?_)
      rw [take_succ' m 0 i hlt]
      intro x hx
      rcases List.mem_append.1 hx with hx | hx
      · exact ht x hx
      · rw [List.mem_singleton.1 hx]; exact h
    · refine Ev.neg (by simpa using h) (Ev.is ?_)
      unfold isRow
      rw [decide_eq_false (fun z => h (z.1 _ (mem_getD m 0 i hlt)))]
theorem specIsRow_ev (m : List Int) (n : Int) (hn : m.length ≤ 4611686018427387904) : Ev (fun k => spec_IsRow.f k m n) (isRow m n) :=
  specIsRow_loop m n hn m.length 0 (by omega) (fun _ h => by cases h)
theorem implIsRow_loop (m : List Int) (n : Int) (hn : m.length ≤ 4611686018427387904) : ∀ (d i : Nat), i + d = m.length → (∀ x ∈ m.take i, -1 ≤ x ∧ x ≤ 1) → Ev (fun k => impl_IsRow.l0 k n m (m.length : Int) (i : Int) m) (isRow m n) := by
  intro d
  induction d with
  | zero =>
    intro i hi ht
    rw [List.take_of_length_le (by omega)] at ht
    exact Ev.step (fun k => impl_IsRow.l0.eq_2 _ _ _ _ _ _) (Ev.neg (by omega) (Ev.bind (within_ev _ _ _) (isRow_end m n ht _ (fun _ => rfl))))
  | succ d ih =>
    intro i hi ht
    have hlt : i < m.length := by omega
    refine Ev.step (fun k => impl_IsRow.l0.eq_2 _ _ _ _ _ _) (Ev.pos (by omega) (Ev.pos (by omega) (Ev.pos (by omega) (Ev.bind (within_ev _ _ _) ?_))))
    rw [wrapS (Nat.le_of_lt hlt) hn, rdN]
    by_cases h : -1 ≤ m.getD i 0 ∧ m.getD i 0 ≤ 1
    · refine Ev.pos (by simpa using h) (ih (i + 1) (by omega) ?_)
      rw [take_succ' m 0 i hlt]
      intro x hx
      rcases List.mem_append.1 hx with hx | hx
      · exact ht x hx
      · rw [List.mem_singleton.1 hx]; exact h
    · refine Ev.neg (by simpa using h) (Ev.is ?_)
      unfold isRow
      rw [decide_eq_false (fun z => h (z.1 _ (mem_getD m 0 i hlt)))]
theorem implIsRow_ev (m : List Int) (n : Int) (hn : m.length ≤ 4611686018427387904) : Ev (fun k => impl_IsRow.f k m n) (isRow m n) :=
  implIsRow_loop m n hn m.length 0 (by omega) (fun _ h => by cases h)
def satIn (m : List Int) : List Int → Bool → Bool → Bool × Bool
  | [], w, l => (w, l)
  | k :: ks, w, l => satIn m ks (w || (m.getD k.toNat 0 == 1)) (l || (m.getD k.toNat 0 == -1))
def satOut (m : List Int) : List (List Int) → Bool
  | [] => true
  | own :: rest => if (satIn m own false false).1 = true ∨ (satIn m own false false).2 = true then !(satIn m own false false).2 else satOut m rest
def strataSat (xs : List (List Int)) (m : List Int) : Bool := areStrata xs (m.length : Int) && isRow m (m.length : Int) && satOut m xs
theorem rd_at (m : List Int) (x : Int) : rd m x = m.getD x.toNat 0 := rfl
theorem specSat_in (xs : List (List Int)) (m : List Int) (i : Nat) (hi : i < xs.length) (hn : (xs.getD i []).length ≤ 4611686018427387904) (hx : ∀ x ∈ xs.getD i [], 0 ≤ x ∧ x < (m.length : Int)) (r : Bool) : ∀ (d j : Nat) (w l : Bool), j + d = (xs.getD i []).length →
    ((satIn m ((xs.getD i []).drop j) w l).1 = true ∨ (satIn m ((xs.getD i []).drop j) w l).2 = true → r = !(satIn m ((xs.getD i []).drop j) w l).2) →
    (¬ ((satIn m ((xs.getD i []).drop j) w l).1 = true ∨ (satIn m ((xs.getD i []).drop j) w l).2 = true) → Ev (fun k => spec_StrataSatisfy.l0 k xs (wrap64 ((i : Int) + 1)) m) r) →
    Ev (fun k => spec_StrataSatisfy.l1 k xs (i : Int) w l (j : Int) m) r := by
  intro d
  induction d with
  | zero =>
    intro j w l hj h1 h2
    rw [List.drop_of_length_le (by omega), satIn] at h1 h2
    refine Ev.step (fun k => spec_StrataSatisfy.l1.eq_2 _ _ _ _ _ _ _) (Ev.pos (by omega) (Ev.pos (by omega) ?_))
    rw [show rd_L1 xs (i : Int) = xs.getD i [] from rfl]
    refine Ev.neg (by omega) ?_
    cases w with
    | true => exact Ev.pos rfl (Ev.is (h1 (.inl rfl)).symm)
    | false =>
      refine Ev.neg (by simp) ?_
      cases l with
      | true => exact Ev.pos rfl (Ev.is (h1 (.inr rfl)).symm)
      | false => exact Ev.neg (by simp) (h2 (by simp))
  | succ d ih =>
    intro j w l hj h1 h2
    have hlt : j < (xs.getD i []).length := by omega
    have hb := hx _ (mem_getD _ 0 j hlt)
    rw [drop_cons _ 0 j hlt, satIn] at h1 h2
    have hk := ih (j + 1) _ _ (by omega) h1 h2
    refine Ev.step (fun k => spec_StrataSatisfy.l1.eq_2 _ _ _ _ _ _ _) (Ev.pos (by omega) (Ev.pos (by omega) ?_))
    rw [show rd_L1 xs (i : Int) = xs.getD i [] from rfl, rdN, wrapS (Nat.le_of_lt hlt) hn, rd_at]
    refine Ev.pos (by omega) ?_
    cases w with
    | true =>
      refine Ev.pos rfl ?_
      cases l with
      | true => exact Ev.pos rfl hk
      | false => exact Ev.neg (by simp) (Ev.pos (by omega) (Ev.pos hb.1 (Ev.pos hb.2 hk)))
    | false =>
      refine Ev.neg (by simp) (Ev.pos (by omega) (Ev.pos hb.1 (Ev.pos hb.2 ?_)))
      cases l with
      | true => exact Ev.pos rfl hk
      | false => exact Ev.neg (by simp) hk
theorem specSat_out (xs : List (List Int)) (m : List Int) (hn : xs.length ≤ 4611686018427387904) (hy : ∀ y ∈ xs, y.length ≤ 4611686018427387904) (hx : ∀ y ∈ xs, ∀ x ∈ y, 0 ≤ x ∧ x < (m.length : Int)) : ∀ (d i : Nat), i + d = xs.length →
    Ev (fun k => spec_StrataSatisfy.l0 k xs (i : Int) m) (satOut m (xs.drop i)) := by
  intro d
  induction d with
  | zero =>
    intro i hi
    rw [List.drop_of_length_le (by omega)]
    exact Ev.step (fun k => spec_StrataSatisfy.l0.eq_2 _ _ _ _) (Ev.neg (by omega) (Ev.now _))
  | succ d ih =>
    intro i hi
    have hlt : i < xs.length := by omega
    have hm := mem_getD xs [] i hlt
    rw [drop_cons xs [] i hlt, satOut]
    refine Ev.step (fun k => spec_StrataSatisfy.l0.eq_2 _ _ _ _) (Ev.pos (by omega) ?_)
    refine specSat_in xs m i hlt (hy _ hm) (hx _ hm) _ (xs.getD i []).length 0 false false (by omega) ?_ ?_
    · rw [List.drop_zero]; intro h; rw [if_pos h]
    · rw [List.drop_zero]; intro h; rw [if_neg h, wrapS (Nat.le_of_lt hlt) hn]; exact ih (i + 1) (by omega)
theorem implSat_in (xs : List (List Int)) (m : List Int) (i : Nat) (own : List Int) (hn : own.length ≤ 4611686018427387904) (hx : ∀ x ∈ own, 0 ≤ x ∧ x < (m.length : Int)) (r : Bool) : ∀ (d j : Nat) (w l : Bool), j + d = own.length →
    ((satIn m (own.drop j) w l).1 = true ∨ (satIn m (own.drop j) w l).2 = true → r = !(satIn m (own.drop j) w l).2) →
    (¬ ((satIn m (own.drop j) w l).1 = true ∨ (satIn m (own.drop j) w l).2 = true) → Ev (fun k => impl_StrataSatisfy.l0 k xs (xs.length : Int) (wrap64 ((i : Int) + 1)) m) r) →
    Ev (fun k => impl_StrataSatisfy.l1 k w l xs (xs.length : Int) (i : Int) own (own.length : Int) (j : Int) m) r := by
  intro d
  induction d with
  | zero =>
    intro j w l hj h1 h2
    rw [List.drop_of_length_le (by omega), satIn] at h1 h2
    refine Ev.step (fun k => impl_StrataSatisfy.l1.eq_2 _ _ _ _ _ _ _ _ _ _) (Ev.neg (by omega) ?_)
    cases w with
    | true => exact Ev.pos rfl (Ev.is (h1 (.inl rfl)).symm)
    | false =>
      refine Ev.neg (by simp) ?_
      cases l with
      | true => exact Ev.pos rfl (Ev.is (h1 (.inr rfl)).symm)
      | false => exact Ev.neg (by simp) (h2 (by simp))
  | succ d ih =>
    intro j w l hj h1 h2
    have hlt : j < own.length := by omega
    have hb := hx _ (mem_getD _ 0 j hlt)
    rw [drop_cons _ 0 j hlt, satIn] at h1 h2
    have hk := ih (j + 1) _ _ (by omega) h1 h2
    refine Ev.step (fun k => impl_StrataSatisfy.l1.eq_2 _ _ _ _ _ _ _ _ _ _) (Ev.pos (by omega) (Ev.pos (by omega) (Ev.pos (by omega) ?_)))
    rw [rdN, wrapS (Nat.le_of_lt hlt) hn, rd_at]
    cases w with
    | true =>
      refine Ev.pos rfl ?_
      cases l with
      | true => exact Ev.pos rfl hk
      | false => exact Ev.neg (by simp) (Ev.pos hb.1 (Ev.pos hb.2 hk))
    | false =>
      refine Ev.neg (by simp) (Ev.pos hb.1 (Ev.pos hb.2 ?_))
      cases l with
      | true => exact Ev.pos rfl hk
      | false => exact Ev.neg (by simp) hk
theorem implSat_out (xs : List (List Int)) (m : List Int) (hn : xs.length ≤ 4611686018427387904) (hy : ∀ y ∈ xs, y.length ≤ 4611686018427387904) (hx : ∀ y ∈ xs, ∀ x ∈ y, 0 ≤ x ∧ x < (m.length : Int)) : ∀ (d i : Nat), i + d = xs.length →
    Ev (fun k => impl_StrataSatisfy.l0 k xs (xs.length : Int) (i : Int) m) (satOut m (xs.drop i)) := by
  intro d
  induction d with
  | zero =>
    intro i hi
    rw [List.drop_of_length_le (by omega)]
    exact Ev.step (fun k => impl_StrataSatisfy.l0.eq_2 _ _ _ _ _) (Ev.neg (by omega) (Ev.now _))
  | succ d ih =>
    intro i hi
    have hlt : i < xs.length := by omega
    have hm := mem_getD xs [] i hlt
    rw [drop_cons xs [] i hlt, satOut]
    refine Ev.step (fun k => impl_StrataSatisfy.l0.eq_2 _ _ _ _ _) (Ev.pos (by omega) (Ev.pos (by omega) (Ev.pos (by omega) ?_)))
    rw [show rd_L1 xs (i : Int) = xs.getD i [] from rfl]
    refine implSat_in xs m i (xs.getD i []) (hy _ hm) (hx _ hm) _ (xs.getD i []).length 0 false false (by omega) ?_ ?_
    · rw [List.drop_zero]; intro h; rw [if_pos h]
    · rw [List.drop_zero]; intro h; rw [if_neg h, wrapS (Nat.le_of_lt hlt) hn]; exact ih (i + 1) (by omega)
theorem strata_boundsR {xs : List (List Int)} {n : Int} (h : areStrata xs n = true) : ∀ y ∈ xs, ∀ x ∈ y, 0 ≤ x ∧ x < n := by
  unfold areStrata at h
  rw [Bool.and_eq_true] at h
  have H := of_decide_eq_true h.2
  exact fun y hy x hx => H.2.2.2.2 x (List.mem_flatten.2 ⟨y, hy, hx⟩)
theorem specStrataSatisfy_ev (xs : List (List Int)) (m : List Int) (hm : m.length ≤ 4611686018427387904) (hn : xs.length ≤ 4611686018427387904) (hy : ∀ y ∈ xs, y.length ≤ 4611686018427387904) (hf : xs.flatten.length < 17592186044416) : Ev (fun k => spec_StrataSatisfy.f k xs m) (strataSat xs m) := by
  unfold spec_StrataSatisfy.f strataSat
  refine Ev.bind (specAreStrata_ev xs _ hn hf) ?_
  by_cases c : areStrata xs (m.length : Int) = true
  · refine Ev.pos c (Ev.bind (specIsRow_ev m _ hm) (Ev.step (fun k => spec_StrataSatisfy.j0.eq_2 _ _ _ _) ?_))
    rw [c, Bool.true_and]
    cases c' : isRow m (m.length : Int) with
    | true => exact Ev.neg (by simp) (specSat_out xs m hn hy (strata_boundsR c) xs.length 0 (by omega))
    | false => exact Ev.pos rfl (Ev.now _)
  · refine Ev.neg c (Ev.step (fun k => spec_StrataSatisfy.j0.eq_2 _ _ _ _) (Ev.pos rfl (Ev.is ?_)))
    rw [show areStrata xs (m.length : Int) = false from by simpa using c]; rfl
theorem implStrataSatisfy_ev (xs : List (List Int)) (m : List Int) (hm : m.length ≤ 4611686018427387904) (hn : xs.length ≤ 4611686018427387904) (hy : ∀ y ∈ xs, y.length ≤ 4611686018427387904) (hf : xs.flatten.length < 17592186044416) : Ev (fun k => impl_StrataSatisfy.f k xs m) (strataSat xs m) := by
  unfold impl_StrataSatisfy.f strataSat impl_isAnyRow.f
  refine Ev.bind (Ev.bind (implIsRow_ev m _ hm) (Ev.now _)) ?_
  by_cases c' : isRow m (m.length : Int) = true
  · refine Ev.pos c' (Ev.bind (implAreStrata_ev xs _ hn hf) (Ev.step (fun k => impl_StrataSatisfy.j0.eq_2 _ _ _ _) ?_))
    rw [c', Bool.and_true]
    cases c : areStrata xs (m.length : Int) with
    | true => exact Ev.neg (by simp) (implSat_out xs m hn hy (strata_boundsR c) xs.length 0 (by omega))
    | false => exact Ev.pos rfl (Ev.now _)
  · refine Ev.neg c' (Ev.step (fun k => impl_StrataSatisfy.j0.eq_2 _ _ _ _) (Ev.pos rfl (Ev.is ?_)))
    rw [show isRow m (m.length : Int) = false from by simpa using c', Bool.and_false]; rfl
def isLearner (n : Int) (xs : List (List Int)) (e : Int) : Bool := areStrata xs n && decide (0 ≤ e ∧ e ≤ 1000)
theorem specIsLearner_ev (n : Int) (xs : List (List Int)) (e : Int) (hn : xs.length ≤ 4611686018427387904) (hf : xs.flatten.length < 17592186044416) : Ev (fun k => spec_IsLearner.f k n xs e) (isLearner n xs e) := by
  unfold spec_IsLearner.f isLearner
  refine Ev.bind (specAreStrata_ev xs n hn hf) ?_
  by_cases c : areStrata xs n = true
  · refine Ev.pos c (Ev.bind (l1In_ev _ _ _) (Ev.is ?_))
    rw [c, Bool.true_and]
  · refine Ev.neg c (Ev.is ?_)
    rw [show areStrata xs n = false from by simpa using c, Bool.false_and]
theorem implIsLearner_ev (n : Int) (xs : List (List Int)) (e : Int) (hn : xs.length ≤ 4611686018427387904) (hf : xs.flatten.length < 17592186044416) : Ev (fun k => impl_IsLearner.f k n xs e) (isLearner n xs e) := by
  unfold impl_IsLearner.f isLearner
  refine Ev.bind (implAreStrata_ev xs n hn hf) ?_
  by_cases c : areStrata xs n = true
  · refine Ev.pos c (Ev.bind (within_ev _ _ _) (Ev.is ?_))
    rw [c, Bool.true_and]
  · refine Ev.neg c (Ev.is ?_)
    rw [show areStrata xs n = false from by simpa using c, Bool.false_and]
theorem intIndex_loop (xs : List Int) (v : Int) (hn : xs.length ≤ 4611686018427387904) : ∀ (d i : Nat), i + d = xs.length → ∃ r, Ev (fun k => slices_Index_int_int.l0 k xs v (xs.length : Int) (i : Int)) r ∧ (0 ≤ r ↔ v ∈ xs.drop i) := by
  intro d
  induction d with
  | zero =>
    intro i hi
    refine ⟨-1, Ev.step (fun k => slices_Index_int_int.l0.eq_2 _ _ _ _ _) (Ev.neg (by omega) (Ev.now _)), ?_⟩
    rw [List.drop_of_length_le (by omega)]
    simp
  | succ d ih =>
    intro i hi
    have hlt : i < xs.length := by omega
    rw [drop_cons xs 0 i hlt]
    by_cases c : v = xs.getD i 0
    · exact ⟨(i : Int), Ev.step (fun k => slices_Index_int_int.l0.eq_2 _ _ _ _ _) (Ev.pos (by omega) (Ev.pos (by omega) (Ev.pos (by omega) (Ev.pos c (Ev.now _))))), ⟨fun _ => by rw [c]; exact List.mem_cons_self .., fun _ => by omega⟩⟩
    · obtain ⟨r, hr, h⟩ := ih (i + 1) (by omega)
      refine ⟨r, Ev.step (fun k => slices_Index_int_int.l0.eq_2 _ _ _ _ _) (Ev.pos (by omega) (Ev.pos (by omega) (Ev.pos (by omega) (Ev.neg c ?_)))), h.trans ⟨fun z => List.mem_cons_of_mem _ z, fun z => ?_⟩⟩
      · rw [wrapS (Nat.le_of_lt hlt) hn]; exact hr
      · rcases List.mem_cons.1 z with z | z
        · exact absurd z c
        · exact z
theorem intContains_ev (xs : List Int) (v : Int) (hn : xs.length ≤ 4611686018427387904) : Ev (fun k => slices_Contains_int_int.f k xs v) (decide (v ∈ xs)) := by
  unfold slices_Contains_int_int.f slices_Index_int_int.f
  obtain ⟨r, hr, h⟩ := intIndex_loop xs v hn xs.length 0 (by omega)
  rw [List.drop_zero] at h
  exact Ev.bind hr (Ev.is (decide_eq_decide.2 h))
theorem high_bound (m : List Int) : ∀ (ys : List (List Int)) (i : Nat), -1 ≤ highFrom m ys i ∧ highFrom m ys i < (i : Int) + ys.length
  | [], i => by rw [highFrom]; simp only [List.length_nil]; omega
  | y :: ys, i => by
    rw [highFrom, List.length_cons]
    have := high_bound m ys (i + 1)
    by_cases q : hasWin m y = true
    · rw [if_pos q]; omega
    · rw [if_neg q]; omega
theorem high_iff (m : List Int) (xs : List (List Int)) (hin : ∀ c ∈ xs.flatten, 0 ≤ c ∧ c < (m.length : Int)) (hall : ∀ u : Nat, u < m.length → (u : Int) ∈ xs.flatten) : (1 : Int) ∈ m ↔ 0 ≤ highFrom m xs 0 := by
  constructor
  · intro h
    obtain ⟨j, hj, he⟩ := List.getElem_of_mem h
    rcases high_char m xs 0 with ⟨_, h2⟩ | ⟨_, h4, _⟩
    · obtain ⟨y, hy, hw⟩ := List.mem_flatten.1 (hall j hj)
      have : hasWin m y = true := List.any_eq_true.2 ⟨(j : Int), hw, by rw [Int.toNat_natCast, getD_at _ _ _ hj, he]; rfl⟩
      rw [h2 y hy] at this
      exact absurd this (by decide)
    · exact h4
  · intro h
    rcases high_char m xs 0 with ⟨h1, _⟩ | ⟨⟨u, h1, h2, _⟩, _, _⟩
    · omega
    · have := hin u h2
      rw [← h1]
      exact mem_getD m 0 u.toNat (by omega)
theorem nodup5_len (y : List Int) (hd : y.Nodup) (hx : ∀ c ∈ y, 0 ≤ c ∧ c < 5) : y.length ≤ 5 := by
  have := congrArg List.length (sort_eq y hd hx)
  rw [List.length_mergeSort] at this
  have h2 : (sortS y).length ≤ 5 := Nat.le_trans (List.length_filter_le _ _) (by decide)
  omega
theorem rows_short (xs : List (List Int)) (h : ∀ y ∈ xs, y ≠ []) : xs.length ≤ xs.flatten.length ∧ ∀ y ∈ xs, y.length ≤ xs.flatten.length := by
  induction xs with
  | nil => simp
  | cons z zs ih =>
    obtain ⟨h1, h2⟩ := ih (fun y hy => h y (List.mem_cons_of_mem _ hy))
    have h3 : 0 < z.length := List.length_pos_iff.2 (h z (List.mem_cons_self ..))
    rw [List.flatten_cons, List.length_append, List.length_cons]
    refine ⟨by omega, fun y hy => ?_⟩
    rcases List.mem_cons.1 hy with rfl | hy
    · omega
    · have := h2 y hy; omega
theorem hearRow_ev (n : Int) (xs : List (List Int)) (e : Int) (m : List Int) (hm : m.length ≤ 1048576) (hn : xs.length ≤ 1048576) (hy : ∀ y ∈ xs, y.length ≤ 1048576) :
    ∃ n' xs' e' b, Ev (fun k => spec_HearRow.f k n xs e m) (n', xs', e', b) ∧ Ev (fun k => impl_HearRow.f k n xs e m) (n', xs', e', b) ∧ xs'.length ≤ 1048576 ∧ (∀ y ∈ xs', y.length ≤ 1048576) ∧ n' = n ∧ (b = false → xs' = xs ∧ e' = e) := by
  have hf : xs.flatten.length < 17592186044416 := by
    have h1 := flatten_len xs 1048576 hy
    have h2 : xs.length * 1048576 ≤ 1048576 * 1048576 := Nat.mul_le_mul_right _ hn
    omega
  have hy2 : ∀ y ∈ xs, y.length ≤ 4611686018427387904 := fun y h => by have := hy y h; omega
  have cp1 := specCopy_ev n e xs hn hy
  have cp2 := implCopied_ev n e xs hn hy
  have js : Ev (fun k => spec_HearRow.j0 k true n xs e m n xs e) (n, xs, e, false) := Ev.step (fun k => spec_HearRow.j0.eq_2 _ _ _ _ _ _ _ _ _) (Ev.pos rfl (Ev.now _))
  have ji : Ev (fun k => impl_HearRow.j0 k true n xs e m) (n, xs, e, false) := Ev.step (fun k => impl_HearRow.j0.eq_2 _ _ _ _ _ _) (Ev.pos rfl (Ev.bind cp2 (Ev.now _)))
  have no : ∀ {g1 g2 : Nat → Option (Int × List (List Int) × Int × Bool)}, Ev g1 (n, xs, e, false) → Ev g2 (n, xs, e, false) → ∃ n' xs' e' b, Ev g1 (n', xs', e', b) ∧ Ev g2 (n', xs', e', b) ∧ xs'.length ≤ 1048576 ∧ (∀ y ∈ xs', y.length ≤ 1048576) ∧ n' = n ∧ (b = false → xs' = xs ∧ e' = e) := fun h1 h2 => ⟨n, xs, e, false, h1, h2, hn, hy, rfl, fun _ => ⟨rfl, rfl⟩⟩
  unfold spec_HearRow.f impl_HearRow.f
  have sL := specIsLearner_ev n xs e (by omega) hf
  have iL := implIsLearner_ev n xs e (by omega) hf
  by_cases c1 : isLearner n xs e = true
  case neg => exact no (Ev.bind cp1 (Ev.bind sL (Ev.neg c1 js))) (Ev.bind iL (Ev.neg c1 ji))
  have sR := specIsRow_ev m n (by omega)
  have iR := implIsRow_ev m n (by omega)
  by_cases c2 : isRow m n = true
  case neg => exact no (Ev.bind cp1 (Ev.bind sL (Ev.pos c1 (Ev.bind sR (Ev.neg c2 js))))) (Ev.bind iL (Ev.pos c1 (Ev.bind iR (Ev.neg c2 ji))))
  have c1' := c1
  unfold isLearner at c1'
  rw [Bool.and_eq_true, decide_eq_true_eq] at c1'
  obtain ⟨c3, he⟩ := c1'
  by_cases c4 : e = 1000
  · exact no (Ev.bind cp1 (Ev.bind sL (Ev.pos c1 (Ev.bind sR (Ev.pos c2 (Ev.pos (by omega) js)))))) (Ev.bind iL (Ev.pos c1 (Ev.bind iR (Ev.pos c2 (Ev.pos c4 ji)))))
  have sS := specStrataSatisfy_ev xs m (by omega) (by omega) hy2 hf
  have iS := implStrataSatisfy_ev xs m (by omega) (by omega) hy2 hf
  by_cases c5 : strataSat xs m = true
  · exact no (Ev.bind cp1 (Ev.bind sL (Ev.pos c1 (Ev.bind sR (Ev.pos c2 (Ev.neg (by omega) (Ev.bind sS (by rw [c5]; exact js)))))))) (Ev.bind iL (Ev.pos c1 (Ev.bind iR (Ev.pos c2 (Ev.neg c4 (Ev.bind iS (Ev.pos c5 ji)))))))
  have c5f : strataSat xs m = false := Bool.eq_false_iff.2 c5
  have hml : (m.length : Int) = n := by
    unfold isRow at c2
    exact (of_decide_eq_true c2).2.2.2
  unfold areStrata at c3
  rw [Bool.and_eq_true, decide_eq_true_eq] at c3
  obtain ⟨hne, hrank⟩ := c3
  unfold isRank at hrank
  obtain ⟨r1, r2, r3, r4, r5⟩ := of_decide_eq_true hrank
  obtain ⟨q1, q2⟩ := rows_short xs hne
  have hin : ∀ c ∈ xs.flatten, 0 ≤ c ∧ c < (m.length : Int) := fun c hc => by have := r5 c hc; omega
  have hall := rank_all xs.flatten m.length (by omega) (by omega) r4 hin
  have te := top_eq_high m xs hin hall
  have hi := high_iff m xs hin hall
  have hb := high_bound m xs 0
  have hx : ∀ y ∈ xs, ∀ c ∈ y, 0 ≤ c ∧ c < (m.length : Int) := fun y h c hc => hin c (List.mem_flatten.2 ⟨y, h, hc⟩)
  have iC := intContains_ev m 1 (by omega)
  have hh := implHigh_ev m xs (by omega) hy2 hx
  generalize highFrom m xs 0 = top at *
  have spec0 : ∀ {res}, Ev (fun k => if top < 0 then (some (n, xs, e, false)) else (spec_HearRow.l1 k top [] [] 0 (m.length : Int) xs e m n xs e)) res → Ev (fun k => spec_HearRow.j0 k false n xs e m n xs e) res := fun {res} h => by
    refine Ev.step (fun k => spec_HearRow.j0.eq_2 _ _ _ _ _ _ _ _ _) (Ev.neg (by simp) ?_)
    have := specTop_loop m xs e n e xs (by omega) (by omega) hy2 res m.length 0 (-1) (by omega)
    rw [te, hml] at this
    rw [hml] at h
    exact this h
  have specAll : ∀ {res}, Ev (fun k => spec_HearRow.j0 k false n xs e m n xs e) res → Ev (fun k => (spec_l22Copy.f k n xs e).bind fun bt168 => ((spec_IsLearner.f k n xs e).bind fun t174 => (if t174 = true then ((spec_IsRow.f k m n).bind fun t175 => (if t175 = true then (if e ≥ 1000 then (spec_HearRow.j0 k true n xs e m bt168.1 bt168.2.1 bt168.2.2) else ((spec_StrataSatisfy.f k xs m).bind fun t176 => (spec_HearRow.j0 k t176 n xs e m bt168.1 bt168.2.1 bt168.2.2))) else (spec_HearRow.j0 k true n xs e m bt168.1 bt168.2.1 bt168.2.2))) else (spec_HearRow.j0 k true n xs e m bt168.1 bt168.2.1 bt168.2.2)))) res := fun h =>
    Ev.bind cp1 (Ev.bind sL (Ev.pos c1 (Ev.bind sR (Ev.pos c2 (Ev.neg (by omega) (Ev.bind sS (by rw [c5f]; exact h)))))))
  have implAll : ∀ {res}, Ev (fun k => impl_HearRow.j0 k (!decide ((1 : Int) ∈ m)) n xs e m) res → Ev (fun k => (impl_IsLearner.f k n xs e).bind fun t316 => (if t316 = true then ((impl_IsRow.f k m n).bind fun t317 => (if t317 = true then (if e = 1000 then (impl_HearRow.j0 k true n xs e m) else ((impl_StrataSatisfy.f k xs m).bind fun t318 => (if t318 = true then (impl_HearRow.j0 k true n xs e m) else ((slices_Contains_int_int.f k m 1).bind fun t319 => (impl_HearRow.j0 k (!t319) n xs e m))))) else (impl_HearRow.j0 k true n xs e m))) else (impl_HearRow.j0 k true n xs e m))) res := fun h =>
    Ev.bind iL (Ev.pos c1 (Ev.bind iR (Ev.pos c2 (Ev.neg c4 (Ev.bind iS (Ev.neg c5 (Ev.bind iC h)))))))
  by_cases c6 : top < 0
  · refine no (specAll (spec0 (Ev.pos c6 (Ev.now _)))) (implAll ?_)
    rw [decide_eq_false (fun h => by have := hi.1 h; omega)]
    exact ji
  have hd5 : ∀ c ∈ xs.flatten, 0 ≤ c ∧ c < 5 := fun c hc => by have := r5 c hc; omega
  have ans := demote_ans m top xs r4 hd5
  have dr := dem_rows m top xs 0 [] (by rw [List.nil_append]; exact r4)
  rw [List.nil_append] at dr
  have short : ∀ y ∈ (if top + 1 = (xs.length : Int) then dem m top xs 0 [] ++ [demMv m top xs 0 []] else dem m top xs 0 []), y.length ≤ 5 := by
    intro y hy'
    by_cases z : top + 1 = (xs.length : Int)
    · rw [if_pos z] at hy'
      rcases List.mem_append.1 hy' with h | h
      · exact nodup5_len y (dr.1 y h).1 (fun c hc => hd5 c ((dr.1 y h).2 c hc))
      · rw [List.mem_singleton.1 h]
        exact nodup5_len _ dr.2.1 (fun c hc => hd5 c (dr.2.2 c hc))
    · rw [if_neg z] at hy'
      exact nodup5_len y (dr.1 y hy').1 (fun c hc => hd5 c ((dr.1 y hy').2 c hc))
  have sD := specDemote_ev m top (by omega) xs (by omega) (fun y h => by have := q2 y h; omega) hx (m.length : Int) e n e xs (fun y h => by have := short y h; omega)
  have iD := implOut_loop m top (by omega) (xs ++ [[]]) (by rw [List.length_append, List.length_singleton]; omega) (fun y h => by
    rcases List.mem_append.1 h with h | h
    · have := q2 y h; omega
    · rw [List.mem_singleton.1 h]; simp) (fun y h c hc => by
    rcases List.mem_append.1 h with h | h
    · exact hx y h c hc
    · rw [List.mem_singleton.1 h] at hc; cases hc) n e xs (xs ++ [[]]).length 0 [] [] (by omega) (by simp) (by simp)
  rw [List.drop_zero, List.nil_append, ans] at iD
  refine ⟨n, _, wrap64 (e + 1), true, specAll (spec0 (Ev.neg c6 sD)), implAll ?_, ?_, ?_, rfl, fun h => absurd h (by decide)⟩
  · rw [decide_eq_true (hi.2 (by omega))]
    exact Ev.step (fun k => impl_HearRow.j0.eq_2 _ _ _ _ _ _) (Ev.neg (by simp) (Ev.bind hh (Ev.bind (implCopyRows_ev xs hn hy) (Ev.pos (by omega) (Ev.bind (Ev.now _) iD)))))
  · rw [List.length_map]
    refine Nat.le_trans (List.length_filter_le _ _) ?_
    have := dem_len m top xs 0 []
    by_cases z : top + 1 = (xs.length : Int)
    · rw [if_pos z, List.length_append, List.length_singleton]; omega
    · rw [if_neg z]; omega
  · intro y hy'
    obtain ⟨z, _, rfl⟩ := List.mem_map.1 hy'
    exact Nat.le_trans (List.length_filter_le _ _) (by decide)
theorem szIntS_ev (l : List Int) (hl : l.length ≤ maxLen) (a : Int) (h0 : 0 ≤ a) (h1 : a ≤ 1048576) : ∃ r, Ev (fun _ => laws_szIntS.f l a) r ∧ -1 ≤ r ∧ r ≤ a ∧ (0 ≤ r → l.length ≤ 1048576) := by
  obtain ⟨r, hr, h⟩ := sz_leaf a l.length hl h0 h1
  exact ⟨r, Ev.flat hr, h⟩
theorem toIntS_loop (xs : List Int) (hn : xs.length ≤ 4611686018427387904) : ∀ (d i : Nat) (ys : List Int), i + d = xs.length → ys.length = xs.length → ys.take i = xs.take i →
    Ev (fun k => laws_toIntS.l0 k xs ys (i : Int)) xs := by
  intro d
  induction d with
  | zero =>
    intro i ys hi hl ht
    refine Ev.step (fun k => laws_toIntS.l0.eq_2 _ _ _ _) ?_
    refine Ev.neg (by omega) (Ev.is ?_)
    have e : i = xs.length := by omega
    rw [e, List.take_length, ← hl, List.take_length] at ht
    exact ht
  | succ d ih =>
    intro i ys hi hl ht
    have hlt : i < xs.length := by omega
    obtain ⟨h1, h2⟩ := set_fill xs ys 0 i hlt hl ht
    refine Ev.step (fun k => laws_toIntS.l0.eq_2 _ _ _ _) ?_
    refine Ev.pos (by omega) (Ev.pos (by omega) (Ev.pos (by omega) ?_))
    rw [wrapS (Nat.le_of_lt hlt) hn, rdN, Int.toNat_natCast]
    exact ih (i + 1) _ (by omega) h1 h2
theorem toIntS_ev (xs : List Int) (hn : xs.length ≤ 35184372088832) : Ev (fun k => laws_toIntS.f k xs) xs := by
  unfold laws_toIntS.f
  refine Ev.pos (by omega) (Ev.pos (by omega) ?_)
  rw [Int.toNat_natCast]
  exact toIntS_loop xs (by omega) xs.length 0 _ (by omega) (by rw [List.length_replicate]) rfl
theorem eqIntS_loop (xs ys : List Int) (hl : xs.length = ys.length) (hn : xs.length ≤ 4611686018427387904) : ∀ (d i : Nat), i + d = xs.length →
    Ev (fun k => laws_eqIntS.l0 k xs ys (i : Int)) (decide (xs.drop i = ys.drop i)) := by
  intro d
  induction d with
  | zero =>
    intro i hi
    refine Ev.step (fun k => laws_eqIntS.l0.eq_2 _ _ _ _) ?_
    refine Ev.neg (by omega) (Ev.is ?_)
    rw [List.drop_of_length_le (by omega), List.drop_of_length_le (by omega)]
    rfl
  | succ d ih =>
    intro i hi
    have hlt : i < xs.length := by omega
    refine Ev.step (fun k => laws_eqIntS.l0.eq_2 _ _ _ _) ?_
    refine Ev.pos (by omega) (Ev.pos (by omega) (Ev.pos (by omega) ?_))
    rw [wrapS (Nat.le_of_lt hlt) hn, rdN, rdN, drop_cons xs 0 i hlt, drop_cons ys 0 i (by omega)]
    by_cases e : xs.getD i 0 = ys.getD i 0
    · refine Ev.pos e (Ev.to (ih (i + 1) (by omega)) ?_)
      rw [e]
      exact decide_eq_decide.2 ⟨fun h => by rw [h], fun h => (List.cons.inj h).2⟩
    · exact Ev.neg e (Ev.is (decide_eq_false (fun h => e (List.cons.inj h).1)).symm)
theorem eqIntS_ev (xs ys : List Int) (hn : xs.length ≤ 4611686018427387904) : Ev (fun k => laws_eqIntS.f k xs ys) (decide (xs = ys)) := by
  unfold laws_eqIntS.f
  by_cases e : xs.length = ys.length
  · exact Ev.pos (by omega) (eqIntS_loop xs ys e hn xs.length 0 (by omega))
  · refine Ev.neg (by omega) (Ev.is ?_)
    have : ¬ xs = ys := fun h => e (by rw [h])
    simp [this]
abbrev LRw := S27
abbrev IRw := S34
deriving instance DecidableEq for S34
def toRw (y : LRw) : IRw := ⟨y.f0⟩
theorem szRow_ev (y : LRw) (hy : y.f0.length ≤ maxLen) (a : Int) (h0 : 0 ≤ a) (h1 : a ≤ 1048576) : ∃ r, Ev (fun _ => laws_szRow.f y.f0 a) r ∧ -1 ≤ r ∧ r ≤ a ∧ (0 ≤ r → y.f0.length ≤ 1048576) := by
  obtain ⟨r, hr, h1, h2, h3⟩ := szIntS_ev y.f0 hy a h0 h1
  unfold laws_szRow.f
  by_cases c : r < 0
  · exact ⟨-1, Ev.bind hr (Ev.pos c (Ev.now _)), by omega, by omega, fun h => by omega⟩
  · exact ⟨r, Ev.bind hr (Ev.neg c (Ev.now _)), h1, h2, h3⟩
theorem szRowS_ev (xs : List LRw) (hn : xs.length ≤ maxLen) (hy : ∀ y ∈ xs, y.f0.length ≤ maxLen) (a : Int) (h0 : 0 ≤ a) (h1 : a ≤ 1048576) :
    ∃ r, Ev (fun k => laws_szRowS.f k xs a) r ∧ -1 ≤ r ∧ r ≤ a ∧ (0 ≤ r → xs.length ≤ 1048576 ∧ ∀ y ∈ xs, y.f0.length ≤ 1048576) :=
  sz_slice (fun k a => laws_szRowS.f k xs a) (fun k left i => laws_szRowS.l0 k xs left i) xs (fun y => y.f0.length ≤ 1048576) hn (fun _ _ => rfl)
    (fun hl left h0 h1 => sz_loop (fun k left i => laws_szRowS.l0 k xs left i) (fun _ (y : LRw) left => laws_szRow.f y.f0 left) xs z27 (fun y => y.f0.length ≤ 1048576) hl (fun k left i => by rw [laws_szRowS.l0.eq_2, show rd_T27 xs (i : Int) = xs.getD i z27 from rfl]) (fun y hm left h0 h1 => szRow_ev y (hy y hm) left h0 h1) xs.length 0 left (by omega) h0 h1) a h0 h1
theorem toRowS_ev (xs : List LRw) (hn : xs.length ≤ 1048576) (hy : ∀ y ∈ xs, y.f0.length ≤ 1048576) : Ev (fun k => laws_toRowS.f k xs) (xs.map toRw) := by
  unfold laws_toRowS.f
  refine Ev.pos (by omega) (Ev.pos (by omega) ?_)
  rw [Int.toNat_natCast]
  exact to_loop (fun k ys i => laws_toRowS.l0 k xs ys i) (fun k y => laws_toRow.f k y.f0) (fun t => (⟨t⟩ : IRw)) (fun y => y.f0) xs z27 (by omega) (fun k ys i => laws_toRowS.l0.eq_2 _ _ _ _)
    (fun y hm => Ev.bind (toIntS_ev y.f0 (by have := hy y hm; omega)) (Ev.now _)) xs.length 0 (List.replicate xs.length z34) (by omega) (by rw [List.length_replicate]) rfl
theorem eqRow_ev (a b : IRw) (hn : a.f0.length ≤ 4611686018427387904) : Ev (fun k => laws_eqRow.f k a.f0 b.f0) (decide (a = b)) := by
  unfold laws_eqRow.f
  refine Ev.bind (eqIntS_ev _ _ hn) ?_
  obtain ⟨a0⟩ := a
  obtain ⟨b0⟩ := b
  by_cases c : a0 = b0
  · exact Ev.pos (decide_eq_true c) (Ev.is (decide_eq_true (by rw [c])).symm)
  · exact Ev.neg (by simpa using c) (Ev.is (decide_eq_false (fun h => c (by injection h))).symm)
theorem eqRowS_ev (xs ys : List IRw) (hn : xs.length ≤ 4611686018427387904) (hy : ∀ y ∈ xs, y.f0.length ≤ 4611686018427387904) : Ev (fun k => laws_eqRowS.f k xs ys) (decide (xs = ys)) :=
  eq_slice _ (fun k i => laws_eqRowS.l0 k xs ys i) xs ys (fun _ => rfl)
    (fun e => eq_loop _ (fun k a b => laws_eqRow.f k a.f0 b.f0) xs ys z34 e hn (fun k i => laws_eqRowS.l0.eq_2 _ _ _ _) (fun a ha b _ => eqRow_ev a b (hy a ha)) xs.length 0 (by omega))
def areRows (l : List IRw) (n : Int) : Bool := decide (∀ j, j < l.length → isRow (l.getD j z34).f0 n = true) && (if 1 ≤ n ∧ n ≤ 5 then decide ((l.length : Int) ≤ 20) else false)
theorem areRows_iff (l : List IRw) (n : Int) : areRows l n = true ↔ (∀ j, 0 ≤ j → j < l.length → isRow (l.getD j z34).f0 n = true) ∧ (if 1 ≤ n ∧ n ≤ 5 then decide ((l.length : Int) ≤ 20) else false) = true := by
  unfold areRows
  rw [Bool.and_eq_true, decide_eq_true_eq]
  exact ⟨fun h => ⟨fun j _ h2 => h.1 j h2, h.2⟩, fun h => ⟨fun j h2 => h.1 j (by omega) h2, h.2⟩⟩
theorem specAreRows_ev (l : List IRw) (n : Int) (hl : l.length ≤ 4611686018427387904) (hm : ∀ y ∈ l, y.f0.length ≤ 4611686018427387904) : Ev (fun k => spec_AreRows.f k l n) (areRows l n) := by
  unfold spec_AreRows.f
  refine all_from (fun k i => spec_AreRows.l0 k l n i) 0 l.length (fun j => isRow (l.getD j z34).f0 n = true) _ (fun i _ hi r h h' => ?_) ?_ l.length 0 (by omega) (by omega) _ (areRows_iff l n)
  · refine Ev.step (fun k => spec_AreRows.l0.eq_2 _ _ _ _) (Ev.pos (by omega) (Ev.pos (by omega) ?_))
    rw [show rd_T34 l (i : Int) = l.getD i z34 from rfl, wrapS (Nat.le_of_lt hi) hl]
    refine Ev.bind (specIsRow_ev _ n (hm _ (mem_getD l _ i hi))) ?_
    by_cases c : isRow (l.getD i z34).f0 n = true
    · exact Ev.pos c (h c)
    · exact Ev.neg c (Ev.is (h' c).symm)
  · refine Ev.step (fun k => spec_AreRows.l0.eq_2 _ _ _ _) (Ev.neg (by omega) (Ev.bind (l1In_ev _ _ _) ?_))
    by_cases c : 1 ≤ n ∧ n ≤ 5
    · rw [if_pos c]; exact Ev.pos (decide_eq_true c) (Ev.now _)
    · rw [if_neg c]; exact Ev.neg (by simpa using c) (Ev.now _)
theorem implAreRows_ev (l : List IRw) (n : Int) (hl : l.length ≤ 4611686018427387904) (hm : ∀ y ∈ l, y.f0.length ≤ 4611686018427387904) : Ev (fun k => impl_AreRows.f k l n) (areRows l n) := by
  unfold impl_AreRows.f
  refine all_from (fun k i => impl_AreRows.l0 k l n l (l.length : Int) i) 0 l.length (fun j => isRow (l.getD j z34).f0 n = true) _ (fun i _ hi r h h' => ?_) ?_ l.length 0 (by omega) (by omega) _ (areRows_iff l n)
  · refine Ev.step (fun k => impl_AreRows.l0.eq_2 _ _ _ _ _ _) (Ev.pos (by omega) (Ev.pos (by omega) (Ev.pos (by omega) ?_)))
    rw [show rd_T34 l (i : Int) = l.getD i z34 from rfl, wrapS (Nat.le_of_lt hi) hl]
    refine Ev.bind (implIsRow_ev _ n (hm _ (mem_getD l _ i hi))) ?_
    by_cases c : isRow (l.getD i z34).f0 n = true
    · exact Ev.pos c (h c)
    · exact Ev.neg c (Ev.is (h' c).symm)
  · refine Ev.step (fun k => impl_AreRows.l0.eq_2 _ _ _ _ _ _) (Ev.neg (by omega) (Ev.bind (within_ev _ _ _) ?_))
    by_cases c : 1 ≤ n ∧ n ≤ 5
    · rw [if_pos c]; exact Ev.pos (decide_eq_true c) (Ev.now _)
    · rw [if_neg c]; exact Ev.neg (by simpa using c) (Ev.now _)
/-- One round over the rows: both come to the same learner and the same 'changed'. -/
theorem hearAll_inner (l : List IRw) (n : Int) (rounds : Int) (A : Int) (B : List (List Int)) (C : Int) (q r u : Int) (hl : l.length ≤ 1048576) (hm : ∀ y ∈ l, y.f0.length ≤ 1048576) : ∀ (d i : Nat), i + d = l.length → ∀ (xs : List (List Int)) (e : Int) (c : Bool), xs.length ≤ 1048576 → (∀ y ∈ xs, y.length ≤ 1048576) →
    ∃ xs' e' c', xs'.length ≤ 1048576 ∧ (∀ y ∈ xs', y.length ≤ 1048576) ∧
      (∀ res, Ev (fun k => if c' = true then (spec_HearAll.l0 k l rounds (wrap64 (q + 1)) (wrap64 (r + 1)) A B C n xs' e') else (some (n, xs', e', q))) res → Ev (fun k => spec_HearAll.l1 k l rounds q r c (i : Int) A B C n xs e) res) ∧
      (∀ res, Ev (fun k => if c' = true then (impl_HearAll.l0 k l (wrap64 (q + 1)) u (wrap64 (r + 1)) n xs' e') else (some (n, xs', e', q))) res → Ev (fun k => impl_HearAll.l1 k l q c u r l (l.length : Int) (i : Int) n xs e) res) := by
  intro d
  induction d with
  | zero =>
    intro i hi xs e c h1 h2
    exact ⟨xs, e, c, h1, h2, fun res h => Ev.step (fun k => spec_HearAll.l1.eq_2 _ _ _ _ _ _ _ _ _ _ _ _ _) (Ev.neg (by omega) h), fun res h => Ev.step (fun k => impl_HearAll.l1.eq_2 _ _ _ _ _ _ _ _ _ _ _ _) (Ev.neg (by omega) h)⟩
  | succ d ih =>
    intro i hi xs e c h1 h2
    have hlt : i < l.length := by omega
    have hr := hm _ (mem_getD l z34 i hlt)
    obtain ⟨n', ys, e', b, hs, hp, g1, g2, rfl, g3⟩ := hearRow_ev n xs e (l.getD i z34).f0 hr h1 h2
    obtain ⟨zs, e'', c', k1, k2, k3, k4⟩ := ih (i + 1) (by omega) ys e' (c || b) g1 g2
    refine ⟨zs, e'', c', k1, k2, fun res h => ?_, fun res h => ?_⟩
    · refine Ev.step (fun k => spec_HearAll.l1.eq_2 _ _ _ _ _ _ _ _ _ _ _ _ _) (Ev.pos (by omega) (Ev.pos (by omega) ?_))
      rw [show rd_T34 l (i : Int) = l.getD i z34 from rfl, wrapS (n := i) (Nat.le_refl _) (by omega)]
      refine Ev.bind hs ?_
      have k3 := k3 res h
      cases b with
      | true =>
        rw [Bool.or_true] at k3
        exact Ev.pos rfl k3
      | false =>
        obtain ⟨rfl, rfl⟩ := g3 rfl
        rw [Bool.or_false] at k3
        exact Ev.neg (by simp) k3
    · refine Ev.step (fun k => impl_HearAll.l1.eq_2 _ _ _ _ _ _ _ _ _ _ _ _) (Ev.pos (by omega) (Ev.pos (by omega) (Ev.pos (by omega) ?_)))
      rw [show rd_T34 l (i : Int) = l.getD i z34 from rfl, wrapS (n := i) (Nat.le_refl _) (by omega)]
      refine Ev.bind hp ?_
      have k4 := k4 res h
      cases c with
      | true =>
        rw [Bool.true_or] at k4
        exact Ev.pos rfl k4
      | false =>
        rw [Bool.false_or] at k4
        exact Ev.neg (by simp) k4
theorem hearAll_outer (l : List IRw) (n : Int) (rounds : Int) (B : List (List Int)) (C : Int) (hl : l.length ≤ 1048576) (hm : ∀ y ∈ l, y.f0.length ≤ 1048576) (ha : areRows l n = true) (hb : rounds ≤ 30) : ∀ (d r : Nat), r + d = rounds.toNat → ∀ (xs : List (List Int)) (e : Int), xs.length ≤ 1048576 → (∀ y ∈ xs, y.length ≤ 1048576) →
    ∃ xs' e' m, xs'.length ≤ 1048576 ∧ (∀ y ∈ xs', y.length ≤ 1048576) ∧ Ev (fun k => spec_HearAll.l0 k l rounds (r : Int) (r : Int) n B C n xs e) (n, xs', e', m) ∧ Ev (fun k => impl_HearAll.l0 k l (r : Int) (mx rounds 0) (r : Int) n xs e) (n, xs', e', m) := by
  have hx : mx rounds 0 = (rounds.toNat : Int) := by
    unfold mx
    by_cases z : rounds < 0
    · rw [if_pos z]; omega
    · rw [if_neg z]; omega
  rw [hx]
  intro d
  induction d with
  | zero =>
    intro r hr xs e h1 h2
    refine ⟨xs, e, r, h1, h2, ?_, ?_⟩
    · exact Ev.step (fun k => spec_HearAll.l0.eq_2 _ _ _ _ _ _ _ _ _ _ _) (Ev.neg (by omega) (Ev.step (fun k => spec_HearAll.j1.eq_2 _ _ _ _ _ _ _ _ _ _ _ _) (Ev.neg (by simp) (Ev.now _))))
    · exact Ev.step (fun k => impl_HearAll.l0.eq_2 _ _ _ _ _ _ _ _) (Ev.neg (by omega) (Ev.now _))
  | succ d ih =>
    intro r hr xs e h1 h2
    obtain ⟨ys, e', c', g1, g2, g3, g4⟩ := hearAll_inner l n rounds n B C (r : Int) (r : Int) (rounds.toNat : Int) hl hm l.length 0 (by omega) xs e false h1 h2
    have hw : wrap64 ((r : Int) + 1) = ((r + 1 : Nat) : Int) := wrapS (n := r) (Nat.le_refl _) (by omega)
    have sA := specAreRows_ev l n (by omega) (fun y h => by have := hm y h; omega)
    rw [ha] at sA
    have go : ∀ res, Ev (fun k => if c' = true then (spec_HearAll.l0 k l rounds (wrap64 ((r : Int) + 1)) (wrap64 ((r : Int) + 1)) n B C n ys e') else (some (n, ys, e', (r : Int)))) res → Ev (fun k => spec_HearAll.l0 k l rounds (r : Int) (r : Int) n B C n xs e) res := fun res h =>
      Ev.step (fun k => spec_HearAll.l0.eq_2 _ _ _ _ _ _ _ _ _ _ _) (Ev.pos (by omega) (Ev.pos hb (Ev.bind sA (Ev.step (fun k => spec_HearAll.j1.eq_2 _ _ _ _ _ _ _ _ _ _ _ _) (Ev.pos rfl (g3 res h))))))
    have go' : ∀ res, Ev (fun k => if c' = true then (impl_HearAll.l0 k l (wrap64 ((r : Int) + 1)) (rounds.toNat : Int) (wrap64 ((r : Int) + 1)) n ys e') else (some (n, ys, e', (r : Int)))) res → Ev (fun k => impl_HearAll.l0 k l (r : Int) (rounds.toNat : Int) (r : Int) n xs e) res := fun res h =>
      Ev.step (fun k => impl_HearAll.l0.eq_2 _ _ _ _ _ _ _ _) (Ev.pos (by omega) (g4 res h))
    rw [hw] at go go'
    cases c' with
    | true =>
      obtain ⟨zs, e'', m, k1, k2, k3, k4⟩ := ih (r + 1) (by omega) ys e' g1 g2
      exact ⟨zs, e'', m, k1, k2, go _ (Ev.pos rfl k3), go' _ (Ev.pos rfl k4)⟩
    | false => exact ⟨ys, e', r, g1, g2, go _ (Ev.neg (by simp) (Ev.now _)), go' _ (Ev.neg (by simp) (Ev.now _))⟩
theorem hearAll_ev (n : Int) (xs : List (List Int)) (e : Int) (l : List IRw) (rounds : Int) (hl : l.length ≤ 1048576) (hm : ∀ y ∈ l, y.f0.length ≤ 1048576) (hn : xs.length ≤ 1048576) (hy : ∀ y ∈ xs, y.length ≤ 1048576) :
    ∃ n' xs' e' m, Ev (fun k => spec_HearAll.f k n xs e l rounds) (n', xs', e', m) ∧ Ev (fun k => impl_HearAll.f k n xs e l rounds) (n', xs', e', m) ∧ xs'.length ≤ 1048576 ∧ (∀ y ∈ xs', y.length ≤ 1048576) := by
  have cp1 := specCopy_ev n e xs hn hy
  have cp2 := implCopied_ev n e xs hn hy
  have sA := specAreRows_ev l n (by omega) (fun y h => by have := hm y h; omega)
  have iA := implAreRows_ev l n (by omega) (fun y h => by have := hm y h; omega)
  have sj : ∀ b : Bool, b = false → Ev (fun k => spec_HearAll.j1 k l rounds 0 0 b n xs e n xs e) (n, xs, e, 0) := fun b hb => by
    subst hb
    exact Ev.step (fun k => spec_HearAll.j1.eq_2 _ _ _ _ _ _ _ _ _ _ _ _) (Ev.neg (by simp) (Ev.now _))
  have ij : Ev (fun k => impl_HearAll.j0 k l rounds 0 true n xs e) (n, xs, e, 0) := Ev.step (fun k => impl_HearAll.j0.eq_2 _ _ _ _ _ _ _ _) (Ev.pos rfl (Ev.now _))
  unfold spec_HearAll.f impl_HearAll.f
  by_cases c : areRows l n = true
  · by_cases z : rounds ≤ 30
    · obtain ⟨ys, e', m, g1, g2, g3, g4⟩ := hearAll_outer l n rounds xs e hl hm c z rounds.toNat 0 (by omega) xs e hn hy
      refine ⟨n, ys, e', m, Ev.bind cp1 g3, Ev.bind cp2 (Ev.bind iA (Ev.pos c (Ev.step (fun k => impl_HearAll.j0.eq_2 _ _ _ _ _ _ _ _) (Ev.neg ?_ g4)))), g1, g2⟩
      rw [decide_eq_false (by omega)]
      simp
    · refine ⟨n, xs, e, 0, Ev.bind cp1 (Ev.step (fun k => spec_HearAll.l0.eq_2 _ _ _ _ _ _ _ _ _ _ _) (Ev.pos (by omega) (Ev.neg z (sj _ rfl)))), Ev.bind cp2 (Ev.bind iA (Ev.pos c ?_)), hn, hy⟩
      rw [decide_eq_true (by omega)]
      exact ij
  · refine ⟨n, xs, e, 0, Ev.bind cp1 (Ev.step (fun k => spec_HearAll.l0.eq_2 _ _ _ _ _ _ _ _ _ _ _) ?_), Ev.bind cp2 (Ev.bind iA (Ev.neg c ij)), hn, hy⟩
    by_cases z : 0 < rounds
    · refine Ev.pos z ?_
      by_cases z' : rounds ≤ 30
      · exact Ev.pos z' (Ev.bind sA (sj _ (Bool.eq_false_iff.2 c)))
      · exact Ev.neg z' (sj _ rfl)
    · exact Ev.neg z (sj _ rfl)
theorem szIntSS_ev (xs : List (List Int)) (hn : xs.length ≤ maxLen) (hy : ∀ y ∈ xs, y.length ≤ maxLen) (a : Int) (h0 : 0 ≤ a) (h1 : a ≤ 1048576) :
    ∃ r, Ev (fun k => laws_szIntSS.f k xs a) r ∧ -1 ≤ r ∧ r ≤ a ∧ (0 ≤ r → xs.length ≤ 1048576 ∧ ∀ y ∈ xs, y.length ≤ 1048576) :=
  sz_slice (fun k a => laws_szIntSS.f k xs a) (fun k left i => laws_szIntSS.l0 k xs left i) xs (fun y => y.length ≤ 1048576) hn (fun _ _ => rfl)
    (fun hl left h0 h1 => sz_loop _ (fun _ y left => laws_szIntS.f y left) xs [] _ hl (fun k left i => laws_szIntSS.l0.eq_2 _ _ _ _) (fun y hm left h0 h1 => szIntS_ev y (hy y hm) left h0 h1) xs.length 0 left (by omega) h0 h1) a h0 h1
theorem szLearner_ev (n : Int) (xs : List (List Int)) (e : Int) (hn : xs.length ≤ maxLen) (hy : ∀ y ∈ xs, y.length ≤ maxLen) (a : Int) (h0 : 0 ≤ a) (h1 : a ≤ 1048576) :
    ∃ r, Ev (fun k => laws_szLearner.f k n xs e a) r ∧ -1 ≤ r ∧ r ≤ a ∧ (0 ≤ r → xs.length ≤ 1048576 ∧ ∀ y ∈ xs, y.length ≤ 1048576) := by
  obtain ⟨r, hr, h⟩ := szIntSS_ev xs hn hy a h0 h1
  refine ⟨r, ?_, h⟩
  unfold laws_szLearner.f
  refine Ev.bind hr ?_
  by_cases c : r < 0
  · exact Ev.pos c (Ev.is (by omega))
  · exact Ev.neg c (Ev.now _)
theorem toIntSS_ev (xs : List (List Int)) (hn : xs.length ≤ 1048576) (hy : ∀ y ∈ xs, y.length ≤ 1048576) : Ev (fun k => laws_toIntSS.f k xs) xs := by
  unfold laws_toIntSS.f
  refine Ev.pos (by omega) (Ev.pos (by omega) ?_)
  have h := to_loop (fun k ys i => laws_toIntSS.l0 k xs ys i) (fun k y => laws_toIntS.f k y) (fun t => t) (fun y => y) xs [] (by omega) (fun k ys i => laws_toIntSS.l0.eq_2 _ _ _ _)
    (fun y hm => toIntS_ev y (by have := hy y hm; omega)) xs.length 0 (List.replicate xs.length []) (by omega) (by rw [List.length_replicate]) rfl
  rw [List.map_id'] at h
  rw [Int.toNat_natCast]
  exact h
theorem toLearner_ev (n : Int) (xs : List (List Int)) (e : Int) (hn : xs.length ≤ 1048576) (hy : ∀ y ∈ xs, y.length ≤ 1048576) : Ev (fun k => laws_toLearner.f k n xs e) (n, xs, e) :=
  Ev.bind (toIntSS_ev xs hn hy) (Ev.now _)
theorem eqIntSS_ev (xs ys : List (List Int)) (hn : xs.length ≤ 4611686018427387904) (hy : ∀ y ∈ xs, y.length ≤ 4611686018427387904) : Ev (fun k => laws_eqIntSS.f k xs ys) (decide (xs = ys)) :=
  eq_slice _ (fun k i => laws_eqIntSS.l0 k xs ys i) xs ys (fun _ => rfl)
    (fun e => eq_loop _ (fun k a b => laws_eqIntS.f k a b) xs ys [] e hn (fun k i => laws_eqIntSS.l0.eq_2 _ _ _ _) (fun a ha b _ => eqIntS_ev a b (hy a ha)) xs.length 0 (by omega))
theorem eqLearner_ev (n : Int) (xs : List (List Int)) (e : Int) (n' : Int) (ys : List (List Int)) (e' : Int) (hn : xs.length ≤ 4611686018427387904) (hy : ∀ y ∈ xs, y.length ≤ 4611686018427387904) :
    Ev (fun k => laws_eqLearner.f k n xs e n' ys e') (decide (n = n' ∧ xs = ys ∧ e = e')) := by
  unfold laws_eqLearner.f
  by_cases c : n = n'
  · refine Ev.pos c (Ev.bind (eqIntSS_ev xs ys hn hy) ?_)
    by_cases d : xs = ys
    · refine Ev.pos (by simpa using d) ?_
      by_cases g : e = e'
      · exact Ev.pos g (Ev.is (by simp [c, d, g]))
      · exact Ev.neg g (Ev.is (by simp [g]))
    · exact Ev.neg (by simpa using d) (Ev.is (by simp [d]))
  · exact Ev.neg c (Ev.is (by simp [c]))
theorem eqLearner_refl (n : Int) (xs : List (List Int)) (e : Int) (hn : xs.length ≤ 1048576) (hy : ∀ y ∈ xs, y.length ≤ 1048576) : Ev (fun k => laws_eqLearner.f k n xs e n xs e) true :=
  Ev.to (eqLearner_ev n xs e n xs e (by omega) (fun y h => by have := hy y h; omega)) (by simp)
def marked (n : Nat) (m : Int) : List Int := (List.range n).map (fun i : Nat => m + (i : Int))
theorem marked_length (n : Nat) (m : Int) : (marked n m).length = n := by simp [marked]
theorem marked_at (n : Nat) (m : Int) (i : Nat) (h : i < n) : (marked n m).getD i 0 = m + i := by
  rw [getD_at _ _ _ (by simpa [marked] using h)]; simp [marked]
theorem markIntS_loop (n : Nat) (m : Int) (h0 : 0 ≤ m) (hn : m + n ≤ 4611686018427387904) : ∀ (d i : Nat) (ys : List Int), i + d = n → ys.length = n → ys.take i = (marked n m).take i → Ev (fun k => laws_markIntS.l0 k ys (m + i) (i : Int)) (m + n, marked n m) := by
  intro d
  induction d with
  | zero =>
    intro i ys hi hl ht
    obtain rfl : i = n := by omega
    refine Ev.step (fun k => laws_markIntS.l0.eq_2 _ _ _ _) (Ev.neg (by omega) (Ev.is ?_))
    rw [List.take_of_length_le (by omega), List.take_of_length_le (by rw [marked_length]; omega)] at ht
    rw [ht]
  | succ d ih =>
    intro i ys hi hl ht
    have hlt : i < n := by omega
    obtain ⟨h1, h2⟩ := set_fill (marked n m) ys 0 i (by rw [marked_length]; exact hlt) (by rw [marked_length]; exact hl) ht
    rw [marked_at n m i hlt, marked_length] at *
    refine Ev.step (fun k => laws_markIntS.l0.eq_2 _ _ _ _) (Ev.pos (by omega) (Ev.pos (by omega) ?_))
    rw [wrapS (n := n) (by omega) (by omega), wrapI (m + i + 1) (by omega), Int.toNat_natCast]
    have := ih (i + 1) _ (by omega) h1 h2
    rwa [show m + ((i + 1 : Nat) : Int) = m + i + 1 by omega] at this
theorem markIntS_ev (xs : List Int) (m : Int) (h0 : 0 ≤ m) (hn : m + xs.length ≤ 4611686018427387904) : Ev (fun k => laws_markIntS.f k xs m) (m + xs.length, marked xs.length m) := by
  have := markIntS_loop xs.length m h0 hn xs.length 0 xs (by omega) rfl rfl
  unfold laws_markIntS.f
  simpa using this
theorem heldIntS_loop (n : Nat) (m : Int) (h0 : 0 ≤ m) (hn : m + n ≤ 4611686018427387904) : ∀ (d i : Nat), i + d = n → Ev (fun k => laws_heldIntS.l0 k (marked n m) (m + i) (i : Int)) (m + n) := by
  intro d
  induction d with
  | zero =>
    intro i hi
    obtain rfl : i = n := by omega
    exact Ev.step (fun k => laws_heldIntS.l0.eq_2 _ _ _ _) (Ev.neg (by rw [marked_length]; omega) (Ev.now _))
  | succ d ih =>
    intro i hi
    have hlt : i < n := by omega
    refine Ev.step (fun k => laws_heldIntS.l0.eq_2 _ _ _ _) (Ev.pos (by rw [marked_length]; omega) (Ev.pos (by omega) ?_))
    rw [rdN, marked_at n m i hlt, wrapS (n := n) (by omega) (by omega), wrapI (m + i + 1) (by omega)]
    refine Ev.pos rfl ?_
    have := ih (i + 1) (by omega)
    rwa [show m + ((i + 1 : Nat) : Int) = m + i + 1 by omega] at this
theorem heldIntS_ev (n : Nat) (m : Int) (h0 : 0 ≤ m) (hn : m + n ≤ 4611686018427387904) : Ev (fun k => laws_heldIntS.f k (marked n m) m) (m + n) := by
  have := heldIntS_loop n m h0 hn n 0 (by omega)
  unfold laws_heldIntS.f
  simpa using this
def markSS : List (List Int) → Int → List (List Int)
  | [], _ => []
  | y :: ys, m => marked y.length m :: markSS ys (m + y.length)
theorem markSS_loop : ∀ (rest done : List (List Int)) (m : Int), done.length + rest.length ≤ 1048576 → (∀ y ∈ rest, y.length ≤ 1048576) → 0 ≤ m → m + 1048576 * rest.length ≤ 4611686018427387904 → Ev (fun k => laws_markIntSS.l0 k (done ++ rest) m (done.length : Int)) (m + rest.flatten.length, done ++ markSS rest m)
  | [], done, m, hl, hy, h0, hm => by
    refine Ev.step (fun k => laws_markIntSS.l0.eq_2 _ _ _ _) (Ev.neg (by simp) (Ev.is ?_))
    simp [markSS]
  | y :: ys, done, m, hl, hy, h0, hm => by
    have hx := hy y (List.mem_cons_self ..)
    have hlt : done.length < (done ++ y :: ys).length := by rw [List.length_append, List.length_cons]; omega
    have hg : (done ++ y :: ys).getD done.length [] = y := by rw [List.getD_eq_getElem?_getD, List.getElem?_append_right (Nat.le_refl _), Nat.sub_self]; rfl
    have hs : ∀ z, (done ++ y :: ys).set done.length z = (done ++ [z]) ++ ys := fun z => by rw [List.set_append_right _ _ (Nat.le_refl _), Nat.sub_self, List.append_assoc]; rfl
    rw [List.length_cons] at hl hm
    have ih := markSS_loop ys (done ++ [marked y.length m]) (m + y.length) (by rw [List.length_append, List.length_singleton]; omega) (fun z h => hy z (List.mem_cons_of_mem _ h)) (by omega) (by omega)
    refine Ev.step (fun k => laws_markIntSS.l0.eq_2 _ _ _ _) (Ev.pos (by omega) (Ev.pos (by omega) (Ev.bind (by rw [Int.toNat_natCast, hg]; exact markIntS_ev y m h0 (by omega)) ?_)))
    simp only [Int.toNat_natCast]
    rw [hs, wrapS (n := done.length) (Nat.le_refl _) (by omega)]
    rw [List.length_append, List.length_singleton] at ih
    rw [markSS, List.append_cons done (marked y.length m) (markSS ys (m + y.length))]
    rw [List.flatten_cons, List.length_append, show m + ((y.length + ys.flatten.length : Nat) : Int) = m + (y.length : Int) + (ys.flatten.length : Int) by omega]
    exact ih
theorem markSS_ev (ys : List (List Int)) (m : Int) (hl : ys.length ≤ 1048576) (hy : ∀ y ∈ ys, y.length ≤ 1048576) (h0 : 0 ≤ m) (hm : m + 1048576 * ys.length ≤ 4611686018427387904) : Ev (fun k => laws_markIntSS.f k ys m) (m + ys.flatten.length, markSS ys m) :=
  markSS_loop ys [] m (by simpa using hl) hy h0 hm
theorem heldSS_loop : ∀ (rest done : List (List Int)) (m : Int), done.length + rest.length ≤ 1048576 → (∀ y ∈ rest, y.length ≤ 1048576) → 0 ≤ m → m + 1048576 * rest.length ≤ 4611686018427387904 → Ev (fun k => laws_heldIntSS.l0 k (done ++ markSS rest m) m (done.length : Int)) (m + rest.flatten.length)
  | [], done, m, hl, hy, h0, hm => by
    refine Ev.step (fun k => laws_heldIntSS.l0.eq_2 _ _ _ _) (Ev.neg (by simp [markSS]) (Ev.is ?_))
    simp
  | y :: ys, done, m, hl, hy, h0, hm => by
    have hx := hy y (List.mem_cons_self ..)
    rw [markSS]
    have hlt : done.length < (done ++ marked y.length m :: markSS ys (m + y.length)).length := by rw [List.length_append, List.length_cons]; omega
    have hg : (done ++ marked y.length m :: markSS ys (m + y.length)).getD done.length [] = marked y.length m := by rw [List.getD_eq_getElem?_getD, List.getElem?_append_right (Nat.le_refl _), Nat.sub_self]; rfl
    rw [List.length_cons] at hl hm
    have ih := heldSS_loop ys (done ++ [marked y.length m]) (m + y.length) (by rw [List.length_append, List.length_singleton]; omega) (fun z h => hy z (List.mem_cons_of_mem _ h)) (by omega) (by omega)
    refine Ev.step (fun k => laws_heldIntSS.l0.eq_2 _ _ _ _) (Ev.pos (by omega) (Ev.pos (by omega) ?_))
    rw [show rd_L1 (done ++ marked y.length m :: markSS ys (m + y.length)) (done.length : Int) = (done ++ marked y.length m :: markSS ys (m + y.length)).getD done.length [] from rfl, hg]
    refine Ev.bind (heldIntS_ev y.length m h0 (by omega)) (Ev.neg (by omega) ?_)
    rw [wrapS (n := done.length) (Nat.le_refl _) (by omega)]
    rw [List.length_append, List.length_singleton, List.append_assoc] at ih
    rw [List.flatten_cons, List.length_append, show m + ((y.length + ys.flatten.length : Nat) : Int) = m + (y.length : Int) + (ys.flatten.length : Int) by omega]
    exact ih
theorem heldSS_ev (ys : List (List Int)) (m : Int) (hl : ys.length ≤ 1048576) (hy : ∀ y ∈ ys, y.length ≤ 1048576) (h0 : 0 ≤ m) (hm : m + 1048576 * ys.length ≤ 4611686018427387904) : Ev (fun k => laws_heldIntSS.f k (markSS ys m) m) (m + ys.flatten.length) :=
  heldSS_loop ys [] m (by simpa using hl) hy h0 hm
theorem markRowS_loop : ∀ (d i : Nat) (ys : List IRw) (m : Int), i + d = ys.length → ys.length ≤ 1048576 → (∀ y ∈ ys, y.f0.length ≤ 1048576) → 0 ≤ m → m + 1048576 * d ≤ 4611686018427387904 →
    ∃ r zs, Ev (fun k => laws_markRowS.l0 k ys m (i : Int)) (r, zs) ∧ 0 ≤ r ∧ r ≤ m + 1048576 * d := by
  intro d
  induction d with
  | zero =>
    intro i ys m hi hl hy h0 hm
    exact ⟨m, ys, Ev.step (fun k => laws_markRowS.l0.eq_2 _ _ _ _) (Ev.neg (by omega) (Ev.now _)), h0, by omega⟩
  | succ d ih =>
    intro i ys m hi hl hy h0 hm
    have hlt : i < ys.length := by omega
    have hx := hy _ (mem_getD ys z34 i hlt)
    obtain ⟨r, zs, hr, h1, h2⟩ := ih (i + 1) (ys.set i ⟨marked (ys.getD i z34).f0.length m⟩) (m + (ys.getD i z34).f0.length) (by rw [List.length_set]; omega) (by rw [List.length_set]; exact hl)
      (fun y hm => by rcases List.mem_or_eq_of_mem_set hm with h | h; exact hy y h; rw [h]; simp only [marked_length]; exact hx) (by omega) (by omega)
    refine ⟨r, zs, Ev.step (fun k => laws_markRowS.l0.eq_2 _ _ _ _) (Ev.pos (by omega) (Ev.pos (by omega) (Ev.bind (by rw [Int.toNat_natCast]; exact markIntS_ev _ m h0 (by omega)) ?_))), h1, by omega⟩
    simp only [Int.toNat_natCast]
    rw [wrapS (n := ys.length) (by omega) (by omega)]
    exact hr
theorem markRowS_any (ys : List IRw) (m : Int) (hl : ys.length ≤ 1048576) (hy : ∀ y ∈ ys, y.f0.length ≤ 1048576) (h0 : 0 ≤ m) (hm : m + 1048576 * ys.length ≤ 4611686018427387904) :
    ∃ r zs, Ev (fun k => laws_markRowS.f k ys m) (r, zs) ∧ 0 ≤ r ∧ r ≤ m + 1048576 * ys.length := markRowS_loop ys.length 0 ys m (by omega) hl hy h0 hm
theorem FnExactHearAll (a0_0 : Int) (l0_1 : List (List (Int))) (a0_2 : Int) (l1 : List (S27)) (a2 : Int) (h0_0 : (Lit.int .i64 a0_0).wf = true) (h0_1 : (l0_1.length ≤ maxLen ∧ ∀ y1 ∈ l0_1, (y1.length ≤ maxLen ∧ ∀ y2 ∈ y1, (Lit.int .i64 y2).wf = true))) (h0_2 : (Lit.int .i64 a0_2).wf = true) (h1 : (l1.length ≤ maxLen ∧ ∀ y3 ∈ l1, ((y3.f0.length ≤ maxLen ∧ ∀ y4 ∈ y3.f0, (Lit.int .i64 y4).wf = true)))) (h2 : (Lit.int .i64 a2).wf = true) : ∃ k, laws_FnExactHearAll.f k a0_0 l0_1 a0_2 l1 a2 = some true := by
  refine Ev.rounds (g := fun k => laws_FnExactHearAll.f k a0_0 l0_1 a0_2 l1 a2) ?_
  unfold laws_FnExactHearAll.f
  obtain ⟨r, hr, hr1, hr2, hg⟩ := szLearner_ev a0_0 l0_1 a0_2 h0_1.1 (fun y h => (h0_1.2 y h).1) 1048576 (by omega) (by omega)
  refine Ev.bind hr ?_
  by_cases c : r < 0
  · exact Ev.pos c (Ev.now _)
  refine Ev.neg c ?_
  obtain ⟨s, hs, hs1, hs2, hg'⟩ := szRowS_ev l1 h1.1 (fun y h => (h1.2 y h).1) r (by omega) (by omega)
  refine Ev.bind hs ?_
  by_cases c' : s < 0
  · exact Ev.pos c' (Ev.now _)
  refine Ev.neg c' ?_
  obtain ⟨hn, hy⟩ := hg (by omega)
  obtain ⟨hn', hy'⟩ := hg' (by omega)
  have hl : (l1.map toRw).length ≤ 1048576 := by rw [List.length_map]; omega
  have hm : ∀ y ∈ l1.map toRw, y.f0.length ≤ 1048576 := fun y h => by
    obtain ⟨z, hz, rfl⟩ := List.mem_map.1 h
    have := hy' z hz
    show z.f0.length ≤ _
    omega
  have t0 := toLearner_ev a0_0 l0_1 a0_2 hn hy
  have t1 := toRowS_ev l1 hn' hy'
  obtain ⟨n', xs', e', b, hsp, him, hx1, hx2⟩ := hearAll_ev a0_0 l0_1 a0_2 (l1.map toRw) a2 hl hm hn hy
  have er := eqRowS_ev (l1.map toRw) (l1.map toRw) (by omega) (fun y h => by have := hm y h; omega)
  have ew := eqLearner_refl n' xs' e' hx1 hx2
  have m0 : Ev (fun k => laws_markLearner.f k a0_0 l0_1 a0_2 1) (1 + l0_1.flatten.length, markSS l0_1 1) := markSS_ev l0_1 1 hn hy (by omega) (by omega)
  have hfl : l0_1.flatten.length ≤ 1048576 * 1048576 := Nat.le_trans (flatten_len l0_1 1048576 hy) (Nat.mul_le_mul_right _ hn)
  obtain ⟨r1, zs, m1, q1, q2⟩ := markRowS_any (l1.map toRw) (1 + l0_1.flatten.length) hl hm (by omega) (by omega)
  have m2 : Ev (fun k => laws_markLearner.f k n' xs' e' 1) (1 + xs'.flatten.length, markSS xs' 1) := markSS_ev xs' 1 hx1 hx2 (by omega) (by omega)
  have m3 : Ev (fun k => laws_heldLearner.f k n' (markSS xs' 1) e' 1) (1 + xs'.flatten.length) := Ev.bind (heldSS_ev xs' 1 hx1 hx2 (by omega) (by omega)) (Ev.neg (by omega) (Ev.now _))
  refine Ev.bind t0 (Ev.bind t1 (Ev.bind hsp (Ev.bind t0 (Ev.bind t1 (Ev.bind him (Ev.bind ew (Ev.pos rfl (Ev.pos rfl ?_))))))))
  refine Ev.bind t0 (Ev.bind (eqLearner_refl a0_0 l0_1 a0_2 hn hy) (Ev.pos rfl ?_))
  refine Ev.bind t1 (Ev.bind er (Ev.pos (by simp) ?_))
  refine Ev.bind m0 (Ev.bind m1 (Ev.neg (by simp only []; omega) (Ev.bind ew (Ev.pos rfl ?_))))
  refine Ev.bind m2 (Ev.bind m3 (Ev.neg (by omega) (Ev.pos rfl ?_)))
  refine Ev.bind t0 (Ev.bind t1 (Ev.bind him (Ev.bind ew (Ev.pos rfl (Ev.pos rfl ?_)))))
  exact Ev.bind m3 (Ev.neg (by omega) (Ev.pos rfl (Ev.now _)))
end Go.Proofs.Ytkddpilambnicaa.Pure
