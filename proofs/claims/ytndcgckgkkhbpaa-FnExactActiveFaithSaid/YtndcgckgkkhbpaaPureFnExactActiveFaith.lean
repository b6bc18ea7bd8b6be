/- The program's ActiveFaith and the reference's answer alike, the arguments stay, and what is returned is new. Conditions: what slices and texts may hold at most. -/
import Derived.Test.YtndcgckgkkhbpaaPFnExactActiveFaithx0
import Derived.Test.YtndcgckgkkhbpaaPFnExactActiveFaithx1
import Derived.Test.YtndcgckgkkhbpaaPFnExactActiveFaithx2
import Derived.Test.YtndcgckgkkhbpaaPFnExactActiveFaithx3
import Derived.Test.YtndcgckgkkhbpaaPFnExactActiveFaithx4
import Derived.Test.YtndcgckgkkhbpaaPFnExactActiveFaithx5
import Derived.Test.YtndcgckgkkhbpaaPFnExactActiveFaithx6
import Derived.Test.YtndcgckgkkhbpaaPFnExactActiveFaithx7
import Derived.Test.YtndcgckgkkhbpaaPFnExactActiveFaithx8
import Derived.Test.YtndcgckgkkhbpaaKit
import Derived.WideShapes
import Derived.Laws.Strings
set_option linter.unusedVariables false
set_option linter.unusedSimpArgs false
namespace Go.Proofs.Ytndcgckgkkhbpaa.Pure
open Go.RowKit Go.WideShapes Go.Proofs.Ytndcgckgkkhbpaa.PFnExactActiveFaith Go.Proofs.Ytndcgckgkkhbpaa.Kit Go.Proofs.YtndcgckgkkhbpaaW.PrintWords Go.Proofs.YtndcgckgkkhbpaaW.PrintLast
theorem intIndex_loop (xs : List Int) (v : Int) (hn : xs.length ≤ 4611686018427387904) : ∀ (d i : Nat), i + d = xs.length → ∃ r, Ev (fun k => slices_Index_int_int.l0 k xs v (xs.length : Int) (i : Int)) r ∧ (0 ≤ r ↔ v ∈ xs.drop i) := by
  intro d
  induction d with
  | zero =>
    intro i hi
    refine ⟨-1, Ev.step (fun k => slices_Index_int_int.l0.eq_2 _ _ _ _ _) (Ev.neg (by omega) (Ev.now _)), ?_⟩
    rw [List.drop_of_length_le (by omega)]
    simp
  | succ d ih =>
    intro i hi
    have hlt : i < xs.length := by omega
    rw [drop_cons xs 0 i hlt]
    by_cases c : v = xs.getD i 0
    · exact ⟨(i : Int), Ev.step (fun k => slices_Index_int_int.l0.eq_2 _ _ _ _ _) (Ev.pos (by omega) (Ev.pos (by omega) (Ev.pos (by omega) (Ev.pos c (Ev.now _))))), ⟨fun _ => by rw [c]; exact List.mem_cons_self .., fun _ => by omega⟩⟩
    · obtain ⟨r, hr, h⟩ := ih (i + 1) (by omega)
      refine ⟨r, Ev.step (fun k => slices_Index_int_int.l0.eq_2 _ _ _ _ _) (Ev.pos (by omega) (Ev.pos (by omega) (Ev.pos (by omega) (Ev.neg c ?_)))), h.trans ⟨fun z => List.mem_cons_of_mem _ z, fun z => ?_⟩⟩
      · rw [wrapS (Nat.le_of_lt hlt) hn]; exact hr
      · rcases List.mem_cons.1 z with z | z
        · exact absurd z c
        · exact z
theorem intContains_ev (xs : List Int) (v : Int) (hn : xs.length ≤ 4611686018427387904) : Ev (fun k => slices_Contains_int_int.f k xs v) (decide (v ∈ xs)) := by
  unfold slices_Contains_int_int.f slices_Index_int_int.f
  obtain ⟨r, hr, h⟩ := intIndex_loop xs v hn xs.length 0 (by omega)
  rw [List.drop_zero] at h
  exact Ev.bind hr (Ev.is (decide_eq_decide.2 h))
theorem l1In_ev (a b c : Int) : Ev (fun _ => spec_l1In.f a b c) (decide (b ≤ a ∧ a ≤ c)) := by
  refine Ev.flat ?_
  unfold spec_l1In.f
  by_cases h : b ≤ a <;> simp [h]
theorem within_ev (a b c : Int) : Ev (fun _ => impl_within.f a b c) (decide (b ≤ a ∧ a ≤ c)) := by
  refine Ev.flat ?_
  unfold impl_within.f
  by_cases h : b ≤ a <;> simp [h]
def isRow (m : List Int) (n : Int) : Bool := decide ((∀ x ∈ m, -1 ≤ x ∧ x ≤ 1) ∧ 1 ≤ n ∧ n ≤ 5 ∧ (m.length : Int) = n)
theorem isRow_end (m : List Int) (n : Int) (ht : ∀ x ∈ m, -1 ≤ x ∧ x ≤ 1) (g : Nat → Option Bool) (hg : ∀ k, g k = (if decide (1 ≤ n ∧ n ≤ 5) = true then (some ((m.length : Int) == n)) else (some false))) : Ev g (isRow m n) := by
  refine Ev.congr hg ?_
  by_cases h : 1 ≤ n ∧ n ≤ 5
  · refine Ev.pos (by simpa using h) (Ev.is ?_)
    unfold isRow
    by_cases e : (m.length : Int) = n
    · rw [decide_eq_true ⟨ht, h.1, h.2, e⟩]; simpa using e
    · rw [decide_eq_false (fun z => e z.2.2.2)]; simpa using e
  · refine Ev.neg (by simpa using h) (Ev.is ?_)
    unfold isRow
    rw [decide_eq_false (fun z => h ⟨z.2.1, z.2.2.1⟩)]
theorem specIsRow_loop (m : List Int) (n : Int) (hn : m.length ≤ 4611686018427387904) : ∀ (d i : Nat), i + d = m.length → (∀ x ∈ m.take i, -1 ≤ x ∧ x ≤ 1) → Ev (fun k => spec_IsRow.l0 k n (i : Int) m) (isRow m n) := by
  intro d
  induction d with
  | zero =>
    intro i hi ht
    rw [List.take_of_length_le (by omega)] at ht
    exact Ev.step (fun k => spec_IsRow.l0.eq_2 _ _ _ _) (Ev.neg (by omega) (Ev.bind (l1In_ev _ _ _) (isRow_end m n ht _ (fun _ => rfl))))
  | succ d ih =>
    intro i hi ht
    have hlt : i < m.length := by omega
    refine Ev.step (fun k => spec_IsRow.l0.eq_2 _ _ _ _) (Ev.pos (by omega) (Ev.pos (by omega) (Ev.bind (l1In_ev _ _ _) ?_)))
    rw [wrapS (Nat.le_of_lt hlt) hn, rdN]
    by_cases h : -1 ≤ m.getD i 0 ∧ m.getD i 0 ≤ 1
    · refine Ev.pos (by simpa using h) (ih (i + 1) (by omega) ?_)
      rw [take_succ' m 0 i hlt]
      intro x hx
      rcases List.mem_append.1 hx with hx | hx
      · exact ht x hx
      · rw [List.mem_singleton.1 hx]; exact h
    · refine Ev.neg (by simpa using h) (Ev.is ?_)
      unfold isRow
      rw [decide_eq_false (fun z => h (z.1 _ (mem_getD m 0 i hlt)))]
theorem specIsRow_ev (m : List Int) (n : Int) (hn : m.length ≤ 4611686018427387904) : Ev (fun k => spec_IsRow.f k m n) (isRow m n) :=
  specIsRow_loop m n hn m.length 0 (by omega) (fun _ h => by cases h)
theorem implIsRow_loop (m : List Int) (n : Int) (hn : m.length ≤ 4611686018427387904) : ∀ (d i : Nat), i + d = m.length → (∀ x ∈ m.take i, -1 ≤ x ∧ x ≤ 1) → Ev (fun k => impl_IsRow.l0 k n m (m.length : Int) (i : Int) m) (isRow m n) := by
  intro d
  induction d with
  | zero =>
    intro i hi ht
    rw [List.take_of_length_le (by omega)] at ht
    exact Ev.step (fun k => impl_IsRow.l0.eq_2 _ _ _ _ _ _) (Ev.neg (by omega) (Ev.bind (within_ev _ _ _) (isRow_end m n ht _ (fun _ => rfl))))
  | succ d ih =>
    intro i hi ht
    have hlt : i < m.length := by omega
    refine Ev.step (fun k => impl_IsRow.l0.eq_2 _ _ _ _ _ _) (Ev.pos (by omega) (Ev.pos (by omega) (Ev.pos (by omega) (Ev.bind (within_ev _ _ _) ?_))))
    rw [wrapS (Nat.le_of_lt hlt) hn, rdN]
    by_cases h : -1 ≤ m.getD i 0 ∧ m.getD i 0 ≤ 1
    · refine Ev.pos (by simpa using h) (ih (i + 1) (by omega) ?_)
      rw [take_succ' m 0 i hlt]
      intro x hx
      rcases List.mem_append.1 hx with hx | hx
      · exact ht x hx
      · rw [List.mem_singleton.1 hx]; exact h
    · refine Ev.neg (by simpa using h) (Ev.is ?_)
      unfold isRow
      rw [decide_eq_false (fun z => h (z.1 _ (mem_getD m 0 i hlt)))]
theorem implIsRow_ev (m : List Int) (n : Int) (hn : m.length ≤ 4611686018427387904) : Ev (fun k => impl_IsRow.f k m n) (isRow m n) :=
  implIsRow_loop m n hn m.length 0 (by omega) (fun _ h => by cases h)
theorem szIntS_ev (l : List Int) (hl : l.length ≤ maxLen) (a : Int) (h0 : 0 ≤ a) (h1 : a ≤ 1048576) : ∃ r, Ev (fun _ => laws_szIntS.f l a) r ∧ -1 ≤ r ∧ r ≤ a ∧ (0 ≤ r → l.length ≤ 1048576) := by
  obtain ⟨r, hr, h⟩ := sz_leaf a l.length hl h0 h1
  exact ⟨r, Ev.flat hr, h⟩
theorem toIntS_loop (xs : List Int) (hn : xs.length ≤ 4611686018427387904) : ∀ (d i : Nat) (ys : List Int), i + d = xs.length → ys.length = xs.length → ys.take i = xs.take i →
    Ev (fun k => laws_toIntS.l0 k xs ys (i : Int)) xs := by
  intro d
  induction d with
  | zero =>
    intro i ys hi hl ht
    refine Ev.step (fun k => laws_toIntS.l0.eq_2 _ _ _ _) ?_
    refine Ev.neg (by omega) (Ev.is ?_)
    have e : i = xs.length := by omega
    rw [e, List.take_length, ← hl, List.take_length] at ht
    exact ht
  | succ d ih =>
    intro i ys hi hl ht
    have hlt : i < xs.length := by omega
    obtain ⟨h1, h2⟩ := set_fill xs ys 0 i hlt hl ht
    refine Ev.step (fun k => laws_toIntS.l0.eq_2 _ _ _ _) ?_
    refine Ev.pos (by omega) (Ev.pos (by omega) (Ev.pos (by omega) ?_))
    rw [wrapS (Nat.le_of_lt hlt) hn, rdN, Int.toNat_natCast]
    exact ih (i + 1) _ (by omega) h1 h2
theorem toIntS_ev (xs : List Int) (hn : xs.length ≤ 35184372088832) : Ev (fun k => laws_toIntS.f k xs) xs := by
  unfold laws_toIntS.f
  refine Ev.pos (by omega) (Ev.pos (by omega) ?_)
  rw [Int.toNat_natCast]
  exact toIntS_loop xs (by omega) xs.length 0 _ (by omega) (by rw [List.length_replicate]) rfl
theorem eqIntS_loop (xs ys : List Int) (hl : xs.length = ys.length) (hn : xs.length ≤ 4611686018427387904) : ∀ (d i : Nat), i + d = xs.length →
    Ev (fun k => laws_eqIntS.l0 k xs ys (i : Int)) (decide (xs.drop i = ys.drop i)) := by
  intro d
  induction d with
  | zero =>
    intro i hi
    refine Ev.step (fun k => laws_eqIntS.l0.eq_2 _ _ _ _) ?_
    refine Ev.neg (by omega) (Ev.is ?_)
    rw [List.drop_of_length_le (by omega), List.drop_of_length_le (by omega)]
    rfl
  | succ d ih =>
    intro i hi
    have hlt : i < xs.length := by omega
    refine Ev.step (fun k => laws_eqIntS.l0.eq_2 _ _ _ _) ?_
    refine Ev.pos (by omega) (Ev.pos (by omega) (Ev.pos (by omega) ?_))
    rw [wrapS (Nat.le_of_lt hlt) hn, rdN, rdN, drop_cons xs 0 i hlt, drop_cons ys 0 i (by omega)]
    by_cases e : xs.getD i 0 = ys.getD i 0
    · refine Ev.pos e (Ev.to (ih (i + 1) (by omega)) ?_)
      rw [e]
      exact decide_eq_decide.2 ⟨fun h => by rw [h], fun h => (List.cons.inj h).2⟩
    · exact Ev.neg e (Ev.is (decide_eq_false (fun h => e (List.cons.inj h).1)).symm)
theorem eqIntS_ev (xs ys : List Int) (hn : xs.length ≤ 4611686018427387904) : Ev (fun k => laws_eqIntS.f k xs ys) (decide (xs = ys)) := by
  unfold laws_eqIntS.f
  by_cases e : xs.length = ys.length
  · exact Ev.pos (by omega) (eqIntS_loop xs ys e hn xs.length 0 (by omega))
  · refine Ev.neg (by omega) (Ev.is ?_)
    have : ¬ xs = ys := fun h => e (by rw [h])
    simp [this]
abbrev LRw := S91
abbrev IRw := S96
deriving instance DecidableEq for S96
def toRw (y : LRw) : IRw := ⟨y.f0⟩
theorem szRow_ev (y : LRw) (hy : y.f0.length ≤ maxLen) (a : Int) (h0 : 0 ≤ a) (h1 : a ≤ 1048576) : ∃ r, Ev (fun _ => laws_szRow.f y.f0 a) r ∧ -1 ≤ r ∧ r ≤ a ∧ (0 ≤ r → y.f0.length ≤ 1048576) := by
  obtain ⟨r, hr, h1, h2, h3⟩ := szIntS_ev y.f0 hy a h0 h1
  unfold laws_szRow.f
  by_cases c : r < 0
  · exact ⟨-1, Ev.bind hr (Ev.pos c (Ev.now _)), by omega, by omega, fun h => by omega⟩
  · exact ⟨r, Ev.bind hr (Ev.neg c (Ev.now _)), h1, h2, h3⟩
theorem szRowS_ev (xs : List LRw) (hn : xs.length ≤ maxLen) (hy : ∀ y ∈ xs, y.f0.length ≤ maxLen) (a : Int) (h0 : 0 ≤ a) (h1 : a ≤ 1048576) :
    ∃ r, Ev (fun k => laws_szRowS.f k xs a) r ∧ -1 ≤ r ∧ r ≤ a ∧ (0 ≤ r → xs.length ≤ 1048576 ∧ ∀ y ∈ xs, y.f0.length ≤ 1048576) :=
  sz_slice (fun k a => laws_szRowS.f k xs a) (fun k left i => laws_szRowS.l0 k xs left i) xs (fun y => y.f0.length ≤ 1048576) hn (fun _ _ => rfl)
    (fun hl left h0 h1 => sz_loop (fun k left i => laws_szRowS.l0 k xs left i) (fun _ (y : LRw) left => laws_szRow.f y.f0 left) xs z91 (fun y => y.f0.length ≤ 1048576) hl (fun k left i => by rw [laws_szRowS.l0.eq_2, show rd_T91 xs (i : Int) = xs.getD i z91 from rfl]) (fun y hm left h0 h1 => szRow_ev y (hy y hm) left h0 h1) xs.length 0 left (by omega) h0 h1) a h0 h1
theorem toRowS_ev (xs : List LRw) (hn : xs.length ≤ 1048576) (hy : ∀ y ∈ xs, y.f0.length ≤ 1048576) : Ev (fun k => laws_toRowS.f k xs) (xs.map toRw) := by
  unfold laws_toRowS.f
  refine Ev.pos (by omega) (Ev.pos (by omega) ?_)
  rw [Int.toNat_natCast]
  exact to_loop (fun k ys i => laws_toRowS.l0 k xs ys i) (fun k y => laws_toRow.f k y.f0) (fun t => (⟨t⟩ : IRw)) (fun y => y.f0) xs z91 (by omega) (fun k ys i => laws_toRowS.l0.eq_2 _ _ _ _)
    (fun y hm => Ev.bind (toIntS_ev y.f0 (by have := hy y hm; omega)) (Ev.now _)) xs.length 0 (List.replicate xs.length z96) (by omega) (by rw [List.length_replicate]) rfl
theorem eqRow_ev (a b : IRw) (hn : a.f0.length ≤ 4611686018427387904) : Ev (fun k => laws_eqRow.f k a.f0 b.f0) (decide (a = b)) := by
  unfold laws_eqRow.f
  refine Ev.bind (eqIntS_ev _ _ hn) ?_
  obtain ⟨a0⟩ := a
  obtain ⟨b0⟩ := b
  by_cases c : a0 = b0
  · exact Ev.pos (decide_eq_true c) (Ev.is (decide_eq_true (by rw [c])).symm)
  · exact Ev.neg (by simpa using c) (Ev.is (decide_eq_false (fun h => c (by injection h))).symm)
theorem eqRowS_ev (xs ys : List IRw) (hn : xs.length ≤ 4611686018427387904) (hy : ∀ y ∈ xs, y.f0.length ≤ 4611686018427387904) : Ev (fun k => laws_eqRowS.f k xs ys) (decide (xs = ys)) :=
  eq_slice _ (fun k i => laws_eqRowS.l0 k xs ys i) xs ys (fun _ => rfl)
    (fun e => eq_loop _ (fun k a b => laws_eqRow.f k a.f0 b.f0) xs ys z96 e hn (fun k i => laws_eqRowS.l0.eq_2 _ _ _ _) (fun a ha b _ => eqRow_ev a b (hy a ha)) xs.length 0 (by omega))
def areRows (l : List IRw) (n : Int) : Bool := decide (∀ j, j < l.length → isRow (l.getD j z96).f0 n = true) && (if 1 ≤ n ∧ n ≤ 5 then decide ((l.length : Int) ≤ 20) else false)
theorem areRows_iff (l : List IRw) (n : Int) : areRows l n = true ↔ (∀ j, 0 ≤ j → j < l.length → isRow (l.getD j z96).f0 n = true) ∧ (if 1 ≤ n ∧ n ≤ 5 then decide ((l.length : Int) ≤ 20) else false) = true := by
  unfold areRows
  rw [Bool.and_eq_true, decide_eq_true_eq]
  exact ⟨fun h => ⟨fun j _ h2 => h.1 j h2, h.2⟩, fun h => ⟨fun j h2 => h.1 j (by omega) h2, h.2⟩⟩
theorem specAreRows_ev (l : List IRw) (n : Int) (hl : l.length ≤ 4611686018427387904) (hm : ∀ y ∈ l, y.f0.length ≤ 4611686018427387904) : Ev (fun k => spec_AreRows.f k l n) (areRows l n) := by
  unfold spec_AreRows.f
  refine all_from (fun k i => spec_AreRows.l0 k l n i) 0 l.length (fun j => isRow (l.getD j z96).f0 n = true) _ (fun i _ hi r h h' => ?_) ?_ l.length 0 (by omega) (by omega) _ (areRows_iff l n)
  · refine Ev.step (fun k => spec_AreRows.l0.eq_2 _ _ _ _) (Ev.pos (by omega) (Ev.pos (by omega) ?_))
    rw [show rd_T96 l (i : Int) = l.getD i z96 from rfl, wrapS (Nat.le_of_lt hi) hl]
    refine Ev.bind (specIsRow_ev _ n (hm _ (mem_getD l _ i hi))) ?_
    by_cases c : isRow (l.getD i z96).f0 n = true
    · exact Ev.pos c (h c)
    · exact Ev.neg c (Ev.is (h' c).symm)
  · refine Ev.step (fun k => spec_AreRows.l0.eq_2 _ _ _ _) (Ev.neg (by omega) (Ev.bind (l1In_ev _ _ _) ?_))
    by_cases c : 1 ≤ n ∧ n ≤ 5
    · rw [if_pos c]; exact Ev.pos (decide_eq_true c) (Ev.now _)
    · rw [if_neg c]; exact Ev.neg (by simpa using c) (Ev.now _)
theorem implAreRows_ev (l : List IRw) (n : Int) (hl : l.length ≤ 4611686018427387904) (hm : ∀ y ∈ l, y.f0.length ≤ 4611686018427387904) : Ev (fun k => impl_AreRows.f k l n) (areRows l n) := by
  unfold impl_AreRows.f
  refine all_from (fun k i => impl_AreRows.l0 k l n l (l.length : Int) i) 0 l.length (fun j => isRow (l.getD j z96).f0 n = true) _ (fun i _ hi r h h' => ?_) ?_ l.length 0 (by omega) (by omega) _ (areRows_iff l n)
  · refine Ev.step (fun k => impl_AreRows.l0.eq_2 _ _ _ _ _ _) (Ev.pos (by omega) (Ev.pos (by omega) (Ev.pos (by omega) ?_)))
    rw [show rd_T96 l (i : Int) = l.getD i z96 from rfl, wrapS (Nat.le_of_lt hi) hl]
    refine Ev.bind (implIsRow_ev _ n (hm _ (mem_getD l _ i hi))) ?_
    by_cases c : isRow (l.getD i z96).f0 n = true
    · exact Ev.pos c (h c)
    · exact Ev.neg c (Ev.is (h' c).symm)
  · refine Ev.step (fun k => impl_AreRows.l0.eq_2 _ _ _ _ _ _) (Ev.neg (by omega) (Ev.bind (within_ev _ _ _) ?_))
    by_cases c : 1 ≤ n ∧ n ≤ 5
    · rw [if_pos c]; exact Ev.pos (decide_eq_true c) (Ev.now _)
    · rw [if_neg c]; exact Ev.neg (by simpa using c) (Ev.now _)
def decFirst (m : List Int) : List Int → Int
  | [] => -1
  | k :: ks => if m.getD k.toNat 0 = 0 then decFirst m ks else k
theorem specDecides_loop (r m : List Int) (hn : r.length ≤ 4611686018427387904) (hx : ∀ x ∈ r, 0 ≤ x ∧ x < (m.length : Int)) : ∀ (d i : Nat), i + d = r.length → Ev (fun k => spec_l24Decides.l0 k r (i : Int) m) (decFirst m (r.drop i)) := by
  intro d
  induction d with
  | zero =>
    intro i hi
    rw [List.drop_of_length_le (by omega)]
    exact Ev.step (fun k => spec_l24Decides.l0.eq_2 _ _ _ _) (Ev.neg (by omega) (Ev.now _))
  | succ d ih =>
    intro i hi
    have hlt : i < r.length := by omega
    have hb := hx _ (mem_getD r 0 i hlt)
    rw [drop_cons r 0 i hlt, decFirst]
    refine Ev.step (fun k => spec_l24Decides.l0.eq_2 _ _ _ _) (Ev.pos (by omega) (Ev.pos (by omega) ?_))
    rw [wrapS (Nat.le_of_lt hlt) hn, rdN, show rd m (r.getD i 0) = m.getD (r.getD i 0).toNat 0 from rfl]
    refine Ev.pos hb.1 (Ev.pos hb.2 ?_)
    by_cases c : m.getD (r.getD i 0).toNat 0 = 0
    · rw [if_pos c]; exact Ev.pos c (ih (i + 1) (by omega))
    · rw [if_neg c]; exact Ev.neg c (Ev.now _)
theorem specDecides_ev (r m : List Int) (hn : r.length ≤ 4611686018427387904) (hx : ∀ x ∈ r, 0 ≤ x ∧ x < (m.length : Int)) : Ev (fun k => spec_l24Decides.f k r m) (decFirst m r) := by
  have := specDecides_loop r m hn hx r.length 0 (by omega)
  rw [List.drop_zero] at this
  exact this
theorem implFirst_loop (r : List Int) (x : IRw) (hn : r.length ≤ 4611686018427387904) (hx : ∀ y ∈ r, 0 ≤ y ∧ y < (x.f0.length : Int)) : ∀ (d i : Nat), i + d = r.length →
    ∃ t, Ev (fun k => v_slices_IndexFunc__ActiveFaith_1.l0 k r [x] (r.length : Int) (i : Int)) t ∧ ((t = -1 ∧ decFirst x.f0 (r.drop i) = -1 ∧ ∀ y ∈ r.drop i, x.f0.getD y.toNat 0 = 0) ∨ (0 ≤ t ∧ t < (r.length : Int) ∧ rd r t = decFirst x.f0 (r.drop i) ∧ 0 ≤ decFirst x.f0 (r.drop i))) := by
  intro d
  induction d with
  | zero =>
    intro i hi
    rw [List.drop_of_length_le (by omega)]
    exact ⟨-1, Ev.step (fun k => v_slices_IndexFunc__ActiveFaith_1.l0.eq_2 _ _ _ _ _) (Ev.neg (by omega) (Ev.now _)), .inl ⟨rfl, rfl, fun y hy => by cases hy⟩⟩
  | succ d ih =>
    intro i hi
    have hlt : i < r.length := by omega
    have hb := hx _ (mem_getD r 0 i hlt)
    have hf : Ev (fun _ : Nat => impl_ActiveFaith_1.f (rd r (i : Int)) [x]) (x.f0.getD (r.getD i 0).toNat 0 != 0) := by
      unfold impl_ActiveFaith_1.f
      rw [rdN]
      exact Ev.pos (by simp) (Ev.pos hb.1 (Ev.pos hb.2 (Ev.now _)))
    rw [drop_cons r 0 i hlt, decFirst]
    by_cases c : x.f0.getD (r.getD i 0).toNat 0 = 0
    · obtain ⟨t, ht, h⟩ := ih (i + 1) (by omega)
      refine ⟨t, Ev.step (fun k => v_slices_IndexFunc__ActiveFaith_1.l0.eq_2 _ _ _ _ _) (Ev.pos (by omega) (Ev.pos (by omega) (Ev.pos (by omega) (Ev.bind hf (Ev.neg (by rw [c]; simp) ?_))))), ?_⟩
      · rw [wrapS (Nat.le_of_lt hlt) hn]; exact ht
      · rw [if_pos c]
        rcases h with ⟨h1, h2, h3⟩ | h
        · refine .inl ⟨h1, h2, fun y hy => ?_⟩
          rcases List.mem_cons.1 hy with rfl | hy
          · exact c
          · exact h3 y hy
        · exact .inr h
    · refine ⟨(i : Int), Ev.step (fun k => v_slices_IndexFunc__ActiveFaith_1.l0.eq_2 _ _ _ _ _) (Ev.pos (by omega) (Ev.pos (by omega) (Ev.pos (by omega) (Ev.bind hf (Ev.pos (by simpa using c) (Ev.now _)))))), .inr ?_⟩
      rw [if_neg c]
      exact ⟨by omega, by omega, rdN r i, hb.1⟩
def conNames : List ByteArray := (spec_ConstraintNames.f).getD []
theorem conNames_len : conNames.length = 10 := rfl
theorem specNames_ev : Ev (fun _ => spec_ConstraintNames.f) conNames := Ev.flat rfl
theorem implNames_ev : Ev (fun _ => impl_ConstraintNames.f) conNames := Ev.flat rfl
theorem l3Has_loop (xs : List ByteArray) (v : ByteArray) (hn : xs.length ≤ 4611686018427387904) : ∀ (d i : Nat), i + d = xs.length → Ev (fun k => spec_l3Has.l0 k xs v (i : Int)) (decide (v ∈ xs.drop i)) := by
  intro d
  induction d with
  | zero =>
    intro i hi
    refine Ev.step (fun k => spec_l3Has.l0.eq_2 _ _ _ _) (Ev.neg (by omega) (Ev.is ?_))
    rw [List.drop_of_length_le (by omega)]
    simp
  | succ d ih =>
    intro i hi
    have hlt : i < xs.length := by omega
    refine Ev.step (fun k => spec_l3Has.l0.eq_2 _ _ _ _) (Ev.pos (by omega) (Ev.pos (by omega) ?_))
    rw [wrapS (Nat.le_of_lt hlt) hn, show rdOf ByteArray.empty xs (i : Int) = xs.getD i ByteArray.empty from rfl, drop_cons xs ByteArray.empty i hlt]
    by_cases c : xs.getD i ByteArray.empty = v
    · exact Ev.pos (ba_ext.2 c) (Ev.is (decide_eq_true (by rw [c]; exact List.mem_cons_self ..)).symm)
    · refine Ev.neg (fun h => c (ba_ext.1 h)) (Ev.to (ih (i + 1) (by omega)) (decide_eq_decide.2 ⟨fun h => List.mem_cons_of_mem _ h, fun h => ?_⟩))
      rcases List.mem_cons.1 h with h | h
      · exact absurd h.symm c
      · exact h
theorem l3Has_ev (xs : List ByteArray) (v : ByteArray) (hn : xs.length ≤ 4611686018427387904) : Ev (fun k => spec_l3Has.f k xs v) (decide (v ∈ xs)) := by
  unfold spec_l3Has.f
  simpa using l3Has_loop xs v hn xs.length 0 (by omega)
def strIdx (a : ByteArray) : List ByteArray → Int → Int
  | [], _ => -1
  | y :: ys, i => if a = y then i else strIdx a ys (i + 1)
theorem strIndex_loop (xs : List ByteArray) (v : ByteArray) (hn : xs.length ≤ 4611686018427387904) : ∀ (d i : Nat), i + d = xs.length → Ev (fun k => slices_Index_string_string.l0 k xs v (xs.length : Int) (i : Int)) (strIdx v (xs.drop i) i) := by
  intro d
  induction d with
  | zero =>
    intro i hi
    refine Ev.step (fun k => slices_Index_string_string.l0.eq_2 _ _ _ _ _) (Ev.neg (by omega) (Ev.is ?_))
    rw [List.drop_of_length_le (by omega)]
    rfl
  | succ d ih =>
    intro i hi
    have hlt : i < xs.length := by omega
    refine Ev.step (fun k => slices_Index_string_string.l0.eq_2 _ _ _ _ _) (Ev.pos (by omega) (Ev.pos (by omega) (Ev.pos (by omega) ?_)))
    rw [wrapS (Nat.le_of_lt hlt) hn, show rdOf ByteArray.empty xs (i : Int) = xs.getD i ByteArray.empty from rfl, drop_cons xs ByteArray.empty i hlt, strIdx]
    by_cases c : v = xs.getD i ByteArray.empty
    · rw [if_pos c]; exact Ev.pos (ba_ext.2 c) (Ev.now _)
    · rw [if_neg c]; exact Ev.neg (fun h => c (ba_ext.1 h)) (ih (i + 1) (by omega))
theorem strIndex_ev (xs : List ByteArray) (v : ByteArray) (hn : xs.length ≤ 4611686018427387904) : Ev (fun k => slices_Index_string_string.f k xs v) (strIdx v xs 0) := by
  unfold slices_Index_string_string.f
  simpa using strIndex_loop xs v hn xs.length 0 (by omega)
theorem strIdx_ge (v : ByteArray) : ∀ (xs : List ByteArray) (i : Int), strIdx v xs i = -1 ∨ i ≤ strIdx v xs i
  | [], _ => .inl rfl
  | y :: ys, i => by
    rw [strIdx]
    by_cases c : v = y
    · rw [if_pos c]; exact .inr (Int.le_refl _)
    · rw [if_neg c]
      rcases strIdx_ge v ys (i + 1) with h | h
      · exact .inl h
      · exact .inr (by omega)
theorem strIdx_take (v : ByteArray) : ∀ (xs : List ByteArray) (m : Nat) (i : Int), 0 ≤ i → ((0 ≤ strIdx v xs i ∧ strIdx v xs i < i + m) ↔ v ∈ xs.take m)
  | [], m, i, _ => by simp [strIdx]
  | y :: ys, 0, i, h0 => by
    simp only [List.take_zero, List.not_mem_nil, iff_false]
    rcases strIdx_ge v (y :: ys) i with h | h <;> omega
  | y :: ys, m + 1, i, h0 => by
    rw [strIdx, List.take_succ_cons, List.mem_cons]
    by_cases c : v = y
    · rw [if_pos c]; exact ⟨fun _ => .inl c, fun _ => by omega⟩
    · rw [if_neg c]
      have := strIdx_take v ys m (i + 1) (by omega)
      exact ⟨fun h => .inr (this.1 ⟨h.1, by omega⟩), fun h => by
        rcases h with h | h
        · exact absurd h c
        · have := this.2 h; exact ⟨this.1, by omega⟩⟩
theorem strIdx_mem (v : ByteArray) : ∀ (xs : List ByteArray) (i : Int), 0 ≤ i → (0 ≤ strIdx v xs i ↔ v ∈ xs)
  | [], i, _ => by simp [strIdx]
  | y :: ys, i, h0 => by
    rw [strIdx, List.mem_cons]
    by_cases c : v = y
    · rw [if_pos c]; exact ⟨fun _ => .inl c, fun _ => h0⟩
    · rw [if_neg c, strIdx_mem v ys (i + 1) (by omega)]
      exact ⟨fun h => .inr h, fun h => h.resolve_left c⟩
theorem strContains_ev (xs : List ByteArray) (v : ByteArray) (hn : xs.length ≤ 4611686018427387904) : Ev (fun k => slices_Contains_string_string.f k xs v) (decide (v ∈ xs)) := by
  unfold slices_Contains_string_string.f
  refine Ev.bind (strIndex_ev xs v hn) (Ev.is ?_)
  exact decide_eq_decide.2 (strIdx_mem v xs 0 (by omega))
def areCons (l : List ByteArray) : Bool := decide ((∀ x ∈ l, x ∈ conNames) ∧ l.Nodup ∧ 1 ≤ (l.length : Int) ∧ (l.length : Int) ≤ 5)
theorem snoc_nodup (l : List ByteArray) (i : Nat) (h : i < l.length) (hd : (l.take i).Nodup) (hm : ¬ l.getD i ByteArray.empty ∈ l.take i) : (l.take (i + 1)).Nodup := by
  rw [take_succ' l ByteArray.empty i h, List.nodup_append]
  exact ⟨hd, by simp, fun a ha b hb e => hm (by rw [List.mem_singleton.1 hb] at e; rw [← e]; exact ha)⟩
theorem nodup_snoc (l : List ByteArray) (i : Nat) (h : i < l.length) (hd : l.Nodup) : ¬ l.getD i ByteArray.empty ∈ l.take i := fun hm => by
  have := hd.sublist (List.take_sublist (i + 1) l)
  rw [take_succ' l ByteArray.empty i h, List.nodup_append] at this
  exact this.2.2 _ hm _ (List.mem_singleton.2 rfl) rfl
theorem all_snoc (l : List ByteArray) (p : ByteArray → Prop) (i : Nat) (h : i < l.length) (ha : ∀ x ∈ l.take i, p x) (hx : p (l.getD i ByteArray.empty)) : ∀ x ∈ l.take (i + 1), p x := by
  rw [take_succ' l ByteArray.empty i h]
  intro x hm
  rcases List.mem_append.1 hm with hm | hm
  · exact ha x hm
  · rw [List.mem_singleton.1 hm]; exact hx
theorem specAreConstraints_loop (l : List ByteArray) (hn : l.length ≤ 4611686018427387904) : ∀ (d i : Nat), i + d = l.length → (l.take i).Nodup → (∀ x ∈ l.take i, x ∈ conNames) → Ev (fun k => spec_AreConstraints.l0 k l (i : Int)) (areCons l) := by
  intro d
  induction d with
  | zero =>
    intro i hi hd hx
    rw [List.take_of_length_le (by omega)] at hd hx
    refine Ev.step (fun k => spec_AreConstraints.l0.eq_2 _ _ _) (Ev.neg (by omega) (Ev.bind (l1In_ev _ _ _) (Ev.is ?_)))
    exact decide_eq_decide.2 ⟨fun h => ⟨hx, hd, h⟩, fun h => h.2.2⟩
  | succ d ih =>
    intro i hi hd hx
    have hlt : i < l.length := by omega
    refine Ev.step (fun k => spec_AreConstraints.l0.eq_2 _ _ _) (Ev.pos (by omega) (Ev.bind specNames_ev (Ev.pos (by omega) (Ev.bind (l3Has_ev conNames _ (by rw [conNames_len]; omega)) ?_))))
    rw [wrapS (Nat.le_of_lt hlt) hn, show rdOf ByteArray.empty l (i : Int) = l.getD i ByteArray.empty from rfl, Int.toNat_natCast]
    by_cases c : l.getD i ByteArray.empty ∈ conNames
    · refine Ev.pos (decide_eq_true c) (Ev.pos (by omega) (Ev.bind (l3Has_ev _ _ (by rw [List.length_take]; omega)) ?_))
      by_cases c2 : l.getD i ByteArray.empty ∈ l.take i
      · refine Ev.pos (decide_eq_true c2) (Ev.is (decide_eq_false (fun h => nodup_snoc l i hlt h.2.1 c2)).symm)
      · exact Ev.neg (by simpa using c2) (ih (i + 1) (by omega) (snoc_nodup l i hlt hd c2) (all_snoc l _ i hlt hx c))
    · exact Ev.neg (by simpa using c) (Ev.is (decide_eq_false (fun h => c (h.1 _ (mem_getD l _ i hlt)))).symm)
theorem specAreConstraints_ev (l : List ByteArray) (hn : l.length ≤ 4611686018427387904) : Ev (fun k => spec_AreConstraints.f k l) (areCons l) :=
  specAreConstraints_loop l hn l.length 0 (by omega) (by simp) (fun _ h => by cases h)
theorem implAreConstraints_loop (l : List ByteArray) (hn : l.length ≤ 4611686018427387904) : ∀ (d i : Nat), i + d = l.length → (l.take i).Nodup → (∀ x ∈ l.take i, x ∈ conNames) → Ev (fun k => impl_AreConstraints.l0 k l l (l.length : Int) (i : Int)) (areCons l) := by
  intro d
  induction d with
  | zero =>
    intro i hi hd hx
    rw [List.take_of_length_le (by omega)] at hd hx
    refine Ev.step (fun k => impl_AreConstraints.l0.eq_2 _ _ _ _ _) (Ev.neg (by omega) (Ev.bind (within_ev _ _ _) (Ev.is ?_)))
    exact decide_eq_decide.2 ⟨fun h => ⟨hx, hd, h⟩, fun h => h.2.2⟩
  | succ d ih =>
    intro i hi hd hx
    have hlt : i < l.length := by omega
    refine Ev.step (fun k => impl_AreConstraints.l0.eq_2 _ _ _ _ _) (Ev.pos (by omega) (Ev.pos (by omega) (Ev.pos (by omega) (Ev.bind implNames_ev (Ev.bind (strContains_ev conNames _ (by rw [conNames_len]; omega)) ?_)))))
    rw [wrapS (Nat.le_of_lt hlt) hn, show rdOf ByteArray.empty l (i : Int) = l.getD i ByteArray.empty from rfl, Int.toNat_natCast]
    by_cases c : l.getD i ByteArray.empty ∈ conNames
    · refine Ev.pos (decide_eq_true c) (Ev.pos (by omega) (Ev.bind (strContains_ev _ _ (by rw [List.length_take]; omega)) ?_))
      by_cases c2 : l.getD i ByteArray.empty ∈ l.take i
      · refine Ev.pos (decide_eq_true c2) (Ev.is (decide_eq_false (fun h => nodup_snoc l i hlt h.2.1 c2)).symm)
      · exact Ev.neg (by simpa using c2) (ih (i + 1) (by omega) (snoc_nodup l i hlt hd c2) (all_snoc l _ i hlt hx c))
    · exact Ev.neg (by simpa using c) (Ev.is (decide_eq_false (fun h => c (h.1 _ (mem_getD l _ i hlt)))).symm)
theorem implAreConstraints_ev (l : List ByteArray) (hn : l.length ≤ 4611686018427387904) : Ev (fun k => impl_AreConstraints.f k l) (areCons l) :=
  implAreConstraints_loop l hn l.length 0 (by omega) (by simp) (fun _ h => by cases h)
def isMark (a : ByteArray) : Bool := decide (a ∈ conNames.take 6)
theorem specIsMarkedness_ev (a : ByteArray) : Ev (fun k => spec_IsMarkedness.f k a) (isMark a) := by
  unfold spec_IsMarkedness.f
  exact Ev.bind specNames_ev (Ev.pos (by rw [conNames_len]; omega) (Ev.bind (l3Has_ev _ _ (by rw [List.length_take]; omega)) (Ev.now _)))
theorem implIsMarkedness_ev (a : ByteArray) : Ev (fun k => impl_IsMarkedness.f k a) (isMark a) := by
  unfold impl_IsMarkedness.f
  refine Ev.bind implNames_ev (Ev.bind (strIndex_ev _ _ (by rw [conNames_len]; omega)) (Ev.bind (within_ev _ _ _) (Ev.is ?_)))
  have := strIdx_take a conNames 6 0 (by omega)
  exact decide_eq_decide.2 ⟨fun h => this.1 ⟨h.1, by omega⟩, fun h => by have := this.2 h; omega⟩
def isRank (l : List Int) (n : Int) : Bool := decide (1 ≤ n ∧ n ≤ 5 ∧ (l.length : Int) = n ∧ l.Nodup ∧ ∀ x ∈ l, 0 ≤ x ∧ x < n)
theorem l12Has_loop (xs : List Int) (v : Int) (hn : xs.length ≤ 4611686018427387904) : ∀ (d i : Nat), i + d = xs.length → Ev (fun k => spec_l12Has.l0 k xs v (i : Int)) (decide (v ∈ xs.drop i)) := by
  intro d
  induction d with
  | zero =>
    intro i hi
    refine Ev.step (fun k => spec_l12Has.l0.eq_2 _ _ _ _) (Ev.neg (by omega) (Ev.is ?_))
    rw [List.drop_of_length_le (by omega)]
    simp
  | succ d ih =>
    intro i hi
    have hlt : i < xs.length := by omega
    refine Ev.step (fun k => spec_l12Has.l0.eq_2 _ _ _ _) (Ev.pos (by omega) (Ev.pos (by omega) ?_))
    rw [wrapS (Nat.le_of_lt hlt) hn, rdN, drop_cons xs 0 i hlt]
    by_cases c : xs.getD i 0 = v
    · exact Ev.pos c (Ev.is (decide_eq_true (by rw [c]; exact List.mem_cons_self ..)).symm)
    · refine Ev.neg c (Ev.to (ih (i + 1) (by omega)) (decide_eq_decide.2 ⟨fun h => List.mem_cons_of_mem _ h, fun h => ?_⟩))
      rcases List.mem_cons.1 h with h | h
      · exact absurd h.symm c
      · exact h
theorem l12Has_ev (xs : List Int) (v : Int) (hn : xs.length ≤ 4611686018427387904) : Ev (fun k => spec_l12Has.f k xs v) (decide (v ∈ xs)) := by
  unfold spec_l12Has.f
  simpa using l12Has_loop xs v hn xs.length 0 (by omega)
theorem specIsRanking_loop (l : List Int) (n : Int) (hn : l.length ≤ 4611686018427387904) : ∀ (d i : Nat), i + d = l.length → (l.take i).Nodup → (∀ x ∈ l.take i, 0 ≤ x ∧ x < n) → Ev (fun k => spec_IsRanking.l0 k l n (i : Int)) (isRank l n) := by
  intro d
  induction d with
  | zero =>
    intro i hi hd hx
    rw [List.take_of_length_le (by omega)] at hd hx
    refine Ev.step (fun k => spec_IsRanking.l0.eq_2 _ _ _ _) (Ev.neg (by omega) (Ev.bind (l1In_ev _ _ _) ?_))
    by_cases h : 1 ≤ n ∧ n ≤ 5
    · refine Ev.pos (by simpa using h) (Ev.is ?_)
      unfold isRank
      by_cases e : (l.length : Int) = n
      · rw [decide_eq_true ⟨h.1, h.2, e, hd, hx⟩]; simpa using e
      · rw [decide_eq_false (fun z => e z.2.2.1)]; simpa using e
    · refine Ev.neg (by simpa using h) (Ev.is ?_)
      unfold isRank
      rw [decide_eq_false (fun z => h ⟨z.1, z.2.1⟩)]
  | succ d ih =>
    intro i hi hd hx
    have hlt : i < l.length := by omega
    refine Ev.step (fun k => spec_IsRanking.l0.eq_2 _ _ _ _) (Ev.pos (by omega) (Ev.pos (by omega) ?_))
    rw [wrapS (Nat.le_of_lt hlt) hn, rdN, Int.toNat_natCast]
    have no : ∀ {p : Prop}, ¬ p → (isRank l n = true → p) → Ev (fun _ => some false) (isRank l n) := fun hp k => Ev.is (by
      cases e : isRank l n with
      | false => rfl
      | true => exact absurd (k e) hp)
    by_cases c : l.getD i 0 < 0
    · exact Ev.pos c (no (p := 0 ≤ l.getD i 0) (by omega) (fun h => ((of_decide_eq_true h).2.2.2.2 _ (mem_getD l 0 i hlt)).1))
    · refine Ev.neg c ?_
      by_cases c' : l.getD i 0 ≥ n
      · exact Ev.pos c' (no (p := l.getD i 0 < n) (by omega) (fun h => ((of_decide_eq_true h).2.2.2.2 _ (mem_getD l 0 i hlt)).2))
      · refine Ev.neg c' (Ev.pos (by omega) (Ev.bind (l12Has_ev _ _ (by rw [List.length_take]; omega)) ?_))
        have hnd : l.Nodup → ¬ l.getD i 0 ∈ l.take i := fun h hm => by
          have := h.sublist (List.take_sublist (i + 1) l)
          rw [take_succ' l 0 i hlt, List.nodup_append] at this
          exact this.2.2 _ hm _ (List.mem_singleton.2 rfl) rfl
        by_cases c2 : l.getD i 0 ∈ l.take i
        · exact Ev.pos (decide_eq_true c2) (no (p := ¬ l.getD i 0 ∈ l.take i) (fun h => h c2) (fun h => hnd (of_decide_eq_true h).2.2.2.1))
        · refine Ev.neg (by simpa using c2) (ih (i + 1) (by omega) ?_ ?_)
          · rw [take_succ' l 0 i hlt, List.nodup_append]
            exact ⟨hd, by simp, fun a ha b hb e => c2 (by rw [List.mem_singleton.1 hb] at e; rw [← e]; exact ha)⟩
          · rw [take_succ' l 0 i hlt]
            intro x hm
            rcases List.mem_append.1 hm with hm | hm
            · exact hx x hm
            · rw [List.mem_singleton.1 hm]; exact ⟨by omega, by omega⟩
theorem specIsRanking_ev (l : List Int) (n : Int) (hn : l.length ≤ 4611686018427387904) : Ev (fun k => spec_IsRanking.f k l n) (isRank l n) :=
  specIsRanking_loop l n hn l.length 0 (by omega) (by simp) (fun _ h => by cases h)
theorem isStrict_ev (m : List Int) (n : Int) (hm : m.length ≤ 4611686018427387904) (hn : 1 ≤ n ∧ n ≤ 4611686018427387904) (b : Bool) (hb : b = true ↔ (∀ j, 0 ≤ j → j < m.length → (0 ≤ m.getD j 0 ∧ m.getD j 0 < n) ∧ (0 < j → m.getD (j - 1) 0 < m.getD j 0))) : Ev (fun k => impl_isStrict.f k m n) b := by
  unfold impl_isStrict.f
  refine all_loop (fun k i => impl_isStrict.l0 k m n m (m.length : Int) i) m.length (fun j => (0 ≤ m.getD j 0 ∧ m.getD j 0 < n) ∧ (0 < j → m.getD (j - 1) 0 < m.getD j 0)) true (fun i hi r h h' => ?_) (Ev.step (fun k => impl_isStrict.l0.eq_2 _ _ _ _ _ _) (Ev.neg (by omega) (Ev.now _))) m.length 0 (by omega) b (hb.trans ⟨fun h => ⟨h, rfl⟩, fun h => h.1⟩)
  refine Ev.step (fun k => impl_isStrict.l0.eq_2 _ _ _ _ _ _) (Ev.pos (by omega) (Ev.pos (by omega) (Ev.pos (by omega) (Ev.bind (within_ev _ _ _) ?_))))
  rw [wrapS (Nat.le_of_lt hi) hm, wrapI (n - 1) (by omega), rdN]
  by_cases c : 0 ≤ m.getD i 0 ∧ m.getD i 0 < n
  · refine Ev.pos (decide_eq_true ⟨c.1, by omega⟩) ?_
    by_cases c0 : 0 < i
    · have e : wrap64 ((i : Int) - 1) = ((i - 1 : Nat) : Int) := by rw [wrapI _ (by omega)]; omega
      refine Ev.pos (by omega) ?_
      rw [e]
      refine Ev.pos (by omega) (Ev.pos (by omega) ?_)
      rw [rdN]
      by_cases c1 : m.getD i 0 ≤ m.getD (i - 1) 0
      · exact Ev.pos c1 (Ev.is (h' (fun z => by have := z.2 c0; omega)).symm)
      · exact Ev.neg c1 (h ⟨c, fun _ => by omega⟩)
    · exact Ev.neg (by omega) (h ⟨c, fun z => absurd z c0⟩)
  · exact Ev.neg (by simp only [decide_eq_true_eq]; omega) (Ev.is (h' (fun z => c z.1)).symm)
theorem sorted_strict (l : List Int) : (∀ j, 0 < j → j < l.length → (l.mergeSort (fun x y => decide (x ≤ y))).getD (j - 1) 0 < (l.mergeSort (fun x y => decide (x ≤ y))).getD j 0) ↔ l.Nodup := by
  have hp := List.mergeSort_perm l (fun x y => decide (x ≤ y))
  have hs := List.pairwise_mergeSort (le := fun x y : Int => decide (x ≤ y)) (fun a b c h1 h2 => by simp only [decide_eq_true_eq] at *; omega) (fun a b => by simp only [Bool.or_eq_true, decide_eq_true_eq]; omega) l
  have hlen := hp.length_eq
  rw [← hp.nodup_iff]
  generalize hm : l.mergeSort (fun x y => decide (x ≤ y)) = m at *
  rw [List.pairwise_iff_getElem] at hs
  simp only [decide_eq_true_eq] at hs
  unfold List.Nodup
  rw [List.pairwise_iff_getElem]
  constructor
  · intro h i j hi hj hij e
    have h1 := h j (by omega) (by omega)
    rw [getD_at _ _ _ hj, getD_at _ _ _ (show j - 1 < m.length by omega)] at h1
    rcases Nat.lt_or_ge i (j - 1) with h2 | h2
    · have := hs i (j - 1) hi (by omega) h2; omega
    · obtain rfl : i = j - 1 := by omega
      omega
  · intro h j h0 hj
    have hj' : j < m.length := by omega
    have h1 := hs (j - 1) j (by omega) hj' (by omega)
    have h2 := h (j - 1) j (by omega) hj' (by omega)
    rw [getD_at _ _ _ hj', getD_at _ _ _ (show j - 1 < m.length by omega)]
    omega
theorem implIsRanking_ev (l : List Int) (n : Int) : Ev (fun k => impl_IsRanking.f k l n) (isRank l n) := by
  unfold impl_IsRanking.f
  refine Ev.bind (within_ev _ _ _) ?_
  by_cases h : 1 ≤ n ∧ n ≤ 5
  · refine Ev.pos (by simpa using h) ?_
    by_cases e : (l.length : Int) = n
    · refine Ev.pos e (isStrict_ev _ n (by rw [List.length_mergeSort]; omega) (by omega) _ ?_)
      unfold isRank
      rw [decide_eq_true_eq, List.length_mergeSort]
      constructor
      · rintro ⟨_, _, _, hd, hx⟩ j _ hj
        exact ⟨hx _ (List.mem_mergeSort.1 (mem_getD _ 0 j (by rw [List.length_mergeSort]; exact hj))), fun h0 => (sorted_strict l).2 hd j h0 hj⟩
      · intro H
        refine ⟨h.1, h.2, e, (sorted_strict l).1 (fun j h0 hj => (H j (by omega) hj).2 h0), fun x hx => ?_⟩
        obtain ⟨j, hj, rfl⟩ := List.getElem_of_mem (List.mem_mergeSort (le := fun x y : Int => decide (x ≤ y)).2 hx)
        have := (H j (by omega) (by rw [List.length_mergeSort] at hj; exact hj)).1
        rwa [getD_at _ _ _ hj] at this
    · refine Ev.neg e (Ev.is ?_)
      unfold isRank
      rw [decide_eq_false (fun z => e z.2.2.1)]
  · refine Ev.neg (by simpa using h) (Ev.is ?_)
    unfold isRank
    rw [decide_eq_false (fun z => h ⟨z.1, z.2.1⟩)]
theorem strict_ext : ∀ (a b : List Int), a.Pairwise (· < ·) → b.Pairwise (· < ·) → (∀ y, y ∈ a ↔ y ∈ b) → a = b
  | [], [], _, _, _ => rfl
  | [], y :: ys, _, _, h => absurd ((h y).2 (List.mem_cons_self ..)) (by simp)
  | x :: xs, [], _, _, h => absurd ((h x).1 (List.mem_cons_self ..)) (by simp)
  | x :: xs, y :: ys, ha, hb, h => by
    obtain ⟨h1, h2⟩ := List.pairwise_cons.1 ha
    obtain ⟨h3, h4⟩ := List.pairwise_cons.1 hb
    have e : x = y := by
      rcases List.mem_cons.1 ((h x).1 (List.mem_cons_self ..)) with e | e
      · exact e
      · rcases List.mem_cons.1 ((h y).2 (List.mem_cons_self ..)) with e2 | e2
        · exact e2.symm
        · have := h1 y e2; have := h3 x e; omega
    subst e
    rw [strict_ext xs ys h2 h4 (fun z => ⟨fun hz => ?_, fun hz => ?_⟩)]
    · rcases List.mem_cons.1 ((h z).1 (List.mem_cons_of_mem _ hz)) with e | e
      · have := h1 z hz; omega
      · exact e
    · rcases List.mem_cons.1 ((h z).2 (List.mem_cons_of_mem _ hz)) with e | e
      · have := h3 z hz; omega
      · exact e
theorem decFirst_mem (m : List Int) : ∀ r : List Int, 0 ≤ decFirst m r → decFirst m r ∈ r
  | [], h => by simp [decFirst] at h
  | k :: ks, h => by
    unfold decFirst at *
    by_cases c : m.getD k.toNat 0 = 0
    · rw [if_pos c] at *
      exact List.mem_cons_of_mem _ (decFirst_mem m ks h)
    · rw [if_neg c]
      exact List.mem_cons_self ..
def faithK (names : List ByteArray) (y : Int) : Bool := !isMark (names.getD y.toNat ByteArray.empty)
def actAt (l : List IRw) (names : List ByteArray) (r : List Int) (kk : Nat) : Bool := l.any (fun x => decide (decFirst x.f0 r = (kk : Int))) && faithK names kk
def actFrom (l : List IRw) (names : List ByteArray) (r : List Int) : Nat → Nat → List Int
  | _, 0 => []
  | kk, d + 1 => if actAt l names r kk = true then (kk : Int) :: actFrom l names r (kk + 1) d else actFrom l names r (kk + 1) d
theorem actFrom_mem (l : List IRw) (names : List ByteArray) (r : List Int) : ∀ (d kk : Nat) (y : Int), y ∈ actFrom l names r kk d ↔ ∃ j : Nat, kk ≤ j ∧ j < kk + d ∧ y = (j : Int) ∧ actAt l names r j = true
  | 0, kk, y => by
    simp only [actFrom, List.not_mem_nil, false_iff]
    rintro ⟨j, h1, h2, _⟩
    omega
  | d + 1, kk, y => by
    unfold actFrom
    by_cases c : actAt l names r kk = true
    · rw [if_pos c, List.mem_cons, actFrom_mem l names r d (kk + 1) y]
      constructor
      · rintro (rfl | ⟨j, h1, h2, h3, h4⟩)
        · exact ⟨kk, Nat.le_refl _, by omega, rfl, c⟩
        · exact ⟨j, by omega, by omega, h3, h4⟩
      · rintro ⟨j, h1, h2, h3, h4⟩
        rcases Nat.lt_or_ge kk j with h5 | h5
        · exact .inr ⟨j, by omega, by omega, h3, h4⟩
        · exact .inl (by omega)
    · rw [if_neg c, actFrom_mem l names r d (kk + 1) y]
      constructor
      · rintro ⟨j, h1, h2, h3, h4⟩
        exact ⟨j, by omega, by omega, h3, h4⟩
      · rintro ⟨j, h1, h2, h3, h4⟩
        rcases Nat.lt_or_ge kk j with h5 | h5
        · exact ⟨j, by omega, by omega, h3, h4⟩
        · obtain rfl : j = kk := by omega
          exact absurd h4 c
theorem actFrom_sorted (l : List IRw) (names : List ByteArray) (r : List Int) : ∀ (d kk : Nat), (actFrom l names r kk d).Pairwise (· < ·)
  | 0, kk => List.Pairwise.nil
  | d + 1, kk => by
    unfold actFrom
    by_cases c : actAt l names r kk = true
    · rw [if_pos c]
      refine List.Pairwise.cons (fun y hy => ?_) (actFrom_sorted l names r d (kk + 1))
      obtain ⟨j, h1, _, rfl, _⟩ := (actFrom_mem l names r d (kk + 1) y).1 hy
      omega
    · rw [if_neg c]; exact actFrom_sorted l names r d (kk + 1)
theorem specAct_l1 (l : List IRw) (names : List ByteArray) (r out res : List Int) (kk : Nat) (hk : kk < names.length) (hl : l.length ≤ 4611686018427387904) (hn : names.length ≤ 1000) (ho : out.length ≤ 1000) (hr : r.length ≤ 4611686018427387904) (hx : ∀ x ∈ l, ∀ y ∈ r, 0 ≤ y ∧ y < (x.f0.length : Int)) :
    ∀ (d i : Nat) (b q : Bool), i + d = l.length → q = (b || (l.drop i).any (fun x => decide (decFirst x.f0 r = (kk : Int)))) → Ev (fun k => spec_ActiveFaith.l0 k l names r (if (q && faithK names kk) = true then out ++ [(kk : Int)] else out) ((kk + 1 : Nat) : Int)) res →
      Ev (fun k => spec_ActiveFaith.l1 k l names r out (kk : Int) b (i : Int)) res := by
  intro d
  induction d with
  | zero =>
    intro i b q hi e h
    rw [List.drop_of_length_le (by omega), List.any_nil, Bool.or_false] at e
    subst e
    refine Ev.step (fun k => spec_ActiveFaith.l1.eq_2 _ _ _ _ _ _ _ _) (Ev.neg (by omega) ?_)
    rw [wrapS (n := names.length) (by omega) (by omega), show rdOf ByteArray.empty names (kk : Int) = names.getD kk ByteArray.empty from rfl]
    cases q with
    | false => exact Ev.neg (by simp) (by simpa using h)
    | true =>
      refine Ev.pos rfl (Ev.pos (by omega) (Ev.pos (by omega) (Ev.bind (specIsMarkedness_ev _) ?_)))
      unfold faithK at h
      rw [show ((kk : Int)).toNat = kk from Int.toNat_natCast kk] at h
      by_cases c : isMark (names.getD kk ByteArray.empty) = true
      · rw [c] at h
        exact Ev.pos c (by simpa using h)
      · rw [Bool.eq_false_iff.2 c] at h
        exact Ev.neg c (Ev.pos (by omega) (by simpa using h))
  | succ d ih =>
    intro i b q hi e h
    have hlt : i < l.length := by omega
    rw [drop_cons l z96 i hlt, List.any_cons] at e
    refine Ev.step (fun k => spec_ActiveFaith.l1.eq_2 _ _ _ _ _ _ _ _) (Ev.pos (by omega) ?_)
    rw [wrapS (Nat.le_of_lt hlt) hl, show rd_T96 l (i : Int) = l.getD i z96 from rfl]
    cases b with
    | true => exact Ev.pos rfl (ih (i + 1) true q (by omega) (by rw [e, Bool.true_or, Bool.true_or]) h)
    | false =>
      refine Ev.neg (by simp) (Ev.pos (by omega) (Ev.bind (specDecides_ev r _ hr (hx _ (mem_getD l _ i hlt))) (ih (i + 1) _ q (by omega) ?_ h)))
      rw [show (decFirst (l.getD i z96).f0 r == (kk : Int)) = decide (decFirst (l.getD i z96).f0 r = (kk : Int)) from rfl]
      rw [e, Bool.false_or]
theorem specAct_l0 (l : List IRw) (names : List ByteArray) (r : List Int) (hl : l.length ≤ 4611686018427387904) (hn : names.length ≤ 500) (hr : r.length ≤ 4611686018427387904) (hx : ∀ x ∈ l, ∀ y ∈ r, 0 ≤ y ∧ y < (x.f0.length : Int)) :
    ∀ (d kk : Nat) (out : List Int), kk + d = names.length → out.length ≤ kk → Ev (fun k => spec_ActiveFaith.l0 k l names r out (kk : Int)) (out ++ actFrom l names r kk d) := by
  intro d
  induction d with
  | zero =>
    intro kk out hk ho
    exact Ev.step (fun k => spec_ActiveFaith.l0.eq_2 _ _ _ _ _ _) (Ev.neg (by omega) (Ev.is (by simp [actFrom])))
  | succ d ih =>
    intro kk out hk ho
    refine Ev.step (fun k => spec_ActiveFaith.l0.eq_2 _ _ _ _ _ _) (Ev.pos (by omega) ?_)
    refine specAct_l1 l names r out _ kk (by omega) hl (by omega) (by omega) hr hx l.length 0 false _ (by omega) rfl ?_
    rw [List.drop_zero, Bool.false_or]
    have e : actFrom l names r kk (d + 1) = if actAt l names r kk = true then (kk : Int) :: actFrom l names r (kk + 1) d else actFrom l names r (kk + 1) d := rfl
    rw [e]
    by_cases c : actAt l names r kk = true
    · rw [if_pos c, if_pos (show (l.any (fun x => decide (decFirst x.f0 r = (kk : Int))) && faithK names kk) = true from c)]
      have := ih (kk + 1) (out ++ [(kk : Int)]) (by omega) (by rw [List.length_append]; simp only [List.length_singleton]; omega)
      rwa [List.append_assoc] at this
    · rw [if_neg c, if_neg (show ¬ (l.any (fun x => decide (decFirst x.f0 r = (kk : Int))) && faithK names kk) = true from c)]
      exact ih (kk + 1) out (by omega) (by omega)
def actStep (names : List ByteArray) (r : List Int) (out : List Int) (x : IRw) : List Int := if 0 ≤ decFirst x.f0 r ∧ faithK names (decFirst x.f0 r) = true ∧ decFirst x.f0 r ∉ out then out ++ [decFirst x.f0 r] else out
def actAll (names : List ByteArray) (r : List Int) : List Int → List IRw → List Int
  | out, [] => out
  | out, x :: xs => actAll names r (actStep names r out x) xs
theorem actStep_len (names : List ByteArray) (r out : List Int) (x : IRw) : (actStep names r out x).length ≤ out.length + 1 := by
  unfold actStep
  split
  · rw [List.length_append]; simp
  · omega
theorem actAll_nodup (names : List ByteArray) (r : List Int) : ∀ (xs : List IRw) (out : List Int), out.Nodup → (actAll names r out xs).Nodup
  | [], out, h => h
  | x :: xs, out, h => by
    refine actAll_nodup names r xs _ ?_
    unfold actStep
    split
    · next c =>
      rw [List.nodup_append]
      exact ⟨h, by simp, fun a ha b hb e => c.2.2 (by rw [List.mem_singleton.1 hb] at e; rw [← e]; exact ha)⟩
    · exact h
theorem actAll_mem (names : List ByteArray) (r : List Int) (y : Int) : ∀ (xs : List IRw) (out : List Int), y ∈ actAll names r out xs ↔ y ∈ out ∨ ∃ x ∈ xs, decFirst x.f0 r = y ∧ 0 ≤ y ∧ faithK names y = true
  | [], out => by simp [actAll]
  | x :: xs, out => by
    show y ∈ actAll names r (actStep names r out x) xs ↔ _
    rw [actAll_mem names r y xs]
    have hs : y ∈ actStep names r out x ↔ y ∈ out ∨ (decFirst x.f0 r = y ∧ 0 ≤ y ∧ faithK names y = true) := by
      unfold actStep
      split
      · next c =>
        rw [List.mem_append, List.mem_singleton]
        constructor
        · rintro (h | rfl)
          · exact .inl h
          · exact .inr ⟨rfl, c.1, c.2.1⟩
        · rintro (h | ⟨rfl, _⟩)
          · exact .inl h
          · exact .inr rfl
      · next c =>
        constructor
        · exact .inl
        · rintro (h | ⟨rfl, h1, h2⟩)
          · exact h
          · exact Classical.byContradiction fun h3 => c ⟨h1, h2, h3⟩
    rw [hs, or_assoc]
    constructor
    · rintro (h | h | ⟨z, hz, h⟩)
      · exact .inl h
      · exact .inr ⟨x, List.mem_cons_self .., h⟩
      · exact .inr ⟨z, List.mem_cons_of_mem _ hz, h⟩
    · rintro (h | ⟨z, hz, h⟩)
      · exact .inl h
      · rcases List.mem_cons.1 hz with rfl | hz
        · exact .inr (.inl h)
        · exact .inr (.inr ⟨z, hz, h⟩)
theorem implAct_l0 (l : List IRw) (names : List ByteArray) (r : List Int) (hl : l.length ≤ 1048576) (hn : names.length ≤ 4611686018427387904) (hr : r.length ≤ 4611686018427387904) (hx : ∀ x ∈ l, ∀ y ∈ r, 0 ≤ y ∧ y < (x.f0.length : Int)) (hm : ∀ y ∈ r, y < (names.length : Int)) :
    ∀ (d i : Nat) (out : List Int), i + d = l.length → out.length ≤ i → Ev (fun k => impl_ActiveFaith.l0 k names r out l (l.length : Int) (i : Int)) ((actAll names r out (l.drop i)).mergeSort (fun x y => decide (x ≤ y))) := by
  intro d
  induction d with
  | zero =>
    intro i out hi ho
    rw [List.drop_of_length_le (by omega)]
    refine Ev.step (fun k => impl_ActiveFaith.l0.eq_2 _ _ _ _ _ _ _) (Ev.neg (by omega) (Ev.bind (a := (actAll names r out []).mergeSort (fun x y => decide (x ≤ y))) (Ev.flat ?_) (Ev.now _)))
    unfold slices_Sort_int_int.f
    rw [if_pos (by omega)]
    rfl
  | succ d ih =>
    intro i out hi ho
    have hlt : i < l.length := by omega
    have hxi := hx _ (mem_getD l z96 i hlt)
    rw [drop_cons l z96 i hlt]
    show Ev _ ((actAll names r (actStep names r out (l.getD i z96)) (l.drop (i + 1))).mergeSort _)
    have hlen := actStep_len names r out (l.getD i z96)
    have hgo := ih (i + 1) (actStep names r out (l.getD i z96)) (by omega) (by omega)
    have hst : actStep names r out (l.getD i z96) = if 0 ≤ decFirst (l.getD i z96).f0 r ∧ faithK names (decFirst (l.getD i z96).f0 r) = true ∧ decFirst (l.getD i z96).f0 r ∉ out then out ++ [decFirst (l.getD i z96).f0 r] else out := rfl
    generalize actStep names r out (l.getD i z96) = o1 at hgo hst hlen ⊢
    refine Ev.step (fun k => impl_ActiveFaith.l0.eq_2 _ _ _ _ _ _ _) (Ev.pos (by omega) (Ev.pos (by omega) (Ev.pos (by omega) ?_)))
    rw [wrapS (n := l.length) (by omega) (by omega), show rd_T96 l (i : Int) = l.getD i z96 from rfl]
    obtain ⟨t, ht, hc⟩ := implFirst_loop r (l.getD i z96) hr hxi r.length 0 (by omega)
    rw [List.drop_zero] at hc
    refine Ev.bind (a := t) ht ?_
    rcases hc with ⟨h1, h2, _⟩ | ⟨h1, h2, h3, h4⟩
    · refine Ev.neg (by omega) ?_
      rw [if_neg (by rw [h2]; omega)] at hst
      rw [hst] at hgo ⊢
      exact hgo
    · have hmem := decFirst_mem (l.getD i z96).f0 r h4
      rw [h3]
      generalize hq : decFirst (l.getD i z96).f0 r = q at hst h3 h4 hmem ⊢
      refine Ev.pos (by omega) (Ev.pos (by omega) (Ev.pos (by omega) (Ev.pos h4 (Ev.pos (hm q hmem) (Ev.bind (implIsMarkedness_ev _) ?_)))))
      rw [show rdOf ByteArray.empty names q = names.getD q.toNat ByteArray.empty from rfl]
      unfold faithK at hst
      by_cases c : isMark (names.getD q.toNat ByteArray.empty) = true
      · rw [if_neg (by rw [c]; simp)] at hst
        rw [hst] at hgo ⊢
        exact Ev.pos c hgo
      · rw [Bool.eq_false_iff.2 c] at hst
        refine Ev.neg c (Ev.bind (intContains_ev out q (by omega)) ?_)
        by_cases c2 : q ∈ out
        · rw [if_neg (by simp [c2])] at hst
          rw [hst] at hgo ⊢
          exact Ev.pos (decide_eq_true c2) hgo
        · rw [if_pos (by simp [c2, h4])] at hst
          rw [hst] at hgo ⊢
          exact Ev.neg (by simpa using c2) (Ev.pos (by omega) hgo)
def activeFaith (l : List IRw) (names : List ByteArray) (r : List Int) : List Int := if areCons names = true ∧ areRows l (names.length : Int) = true ∧ isRank r (names.length : Int) = true then actFrom l names r 0 names.length else []
theorem active_sides (l : List IRw) (names : List ByteArray) (r : List Int) (h1 : areRows l (names.length : Int) = true) (h2 : isRank r (names.length : Int) = true) :
    names.length ≤ 5 ∧ (∀ x ∈ l, ∀ y ∈ r, 0 ≤ y ∧ y < (x.f0.length : Int)) ∧ (∀ y ∈ r, y < (names.length : Int)) := by
  unfold isRank at h2
  obtain ⟨a1, a2, a3, a4, a5⟩ := of_decide_eq_true h2
  refine ⟨by omega, fun x hx y hy => ?_, fun y hy => (a5 y hy).2⟩
  obtain ⟨j, hj, rfl⟩ := List.getElem_of_mem hx
  have := ((areRows_iff l (names.length : Int)).1 h1).1 j (by omega) hj
  rw [getD_at _ _ _ hj] at this
  unfold isRow at this
  obtain ⟨_, _, _, b4⟩ := of_decide_eq_true this
  have := a5 y hy
  omega
theorem active_eq (l : List IRw) (names : List ByteArray) (r : List Int) (h2 : isRank r (names.length : Int) = true) : (actAll names r [] l).mergeSort (fun x y => decide (x ≤ y)) = actFrom l names r 0 names.length := by
  have hnd := actAll_nodup names r l [] List.nodup_nil
  unfold isRank at h2
  obtain ⟨a1, a2, a3, a4, a5⟩ := of_decide_eq_true h2
  refine strict_ext _ _ ?_ (actFrom_sorted l names r _ 0) (fun y => ?_)
  · have hs := (sorted_strict (actAll names r [] l)).2 hnd
    have hp := List.pairwise_mergeSort (le := fun x y : Int => decide (x ≤ y)) (fun a b c h1 h2 => by simp only [decide_eq_true_eq] at *; omega) (fun a b => by simp only [Bool.or_eq_true, decide_eq_true_eq]; omega) (actAll names r [] l)
    have hn2 := (List.mergeSort_perm (actAll names r [] l) (fun x y => decide (x ≤ y))).nodup_iff.2 hnd
    exact List.Pairwise.imp₂ (fun a b h1 h2 => by simp only [decide_eq_true_eq] at h1; omega) hp hn2
  · rw [List.mem_mergeSort, actAll_mem, actFrom_mem]
    constructor
    · rintro (h | ⟨x, hx, rfl, h0, hf⟩)
      · cases h
      · have hb := a5 _ (decFirst_mem x.f0 r h0)
        refine ⟨(decFirst x.f0 r).toNat, by omega, by omega, by omega, ?_⟩
        unfold actAt
        rw [show (((decFirst x.f0 r).toNat : Nat) : Int) = decFirst x.f0 r by omega, hf, Bool.and_true, List.any_eq_true]
        exact ⟨x, hx, by simp⟩
    · rintro ⟨j, _, _, rfl, h⟩
      unfold actAt at h
      rw [Bool.and_eq_true, List.any_eq_true] at h
      obtain ⟨⟨x, hx, hd⟩, hf⟩ := h
      exact .inr ⟨x, hx, of_decide_eq_true hd, by omega, hf⟩
theorem specActiveFaith_ev (l : List IRw) (names : List ByteArray) (r : List Int) (hl : l.length ≤ 1048576) (hm : ∀ y ∈ l, y.f0.length ≤ 4611686018427387904) (hn : names.length ≤ 4611686018427387904) (hr : r.length ≤ 4611686018427387904) : Ev (fun k => spec_ActiveFaith.f k l names r) (activeFaith l names r) := by
  unfold spec_ActiveFaith.f activeFaith
  have jt : Ev (fun k => spec_ActiveFaith.j0 k l names r [] true) [] := Ev.step (fun k => spec_ActiveFaith.j0.eq_2 _ _ _ _ _ _) (Ev.pos rfl (Ev.now _))
  refine Ev.bind (Ev.now _) (Ev.bind (specAreConstraints_ev names hn) ?_)
  by_cases c1 : areCons names = true
  · refine Ev.pos c1 (Ev.bind (specAreRows_ev l _ (by omega) hm) ?_)
    by_cases c2 : areRows l (names.length : Int) = true
    · refine Ev.pos c2 (Ev.bind (specIsRanking_ev r _ hr) ?_)
      by_cases c3 : isRank r (names.length : Int) = true
      · rw [if_pos ⟨c1, c2, c3⟩, c3]
        obtain ⟨s1, s2, s3⟩ := active_sides l names r c2 c3
        refine Ev.step (fun k => spec_ActiveFaith.j0.eq_2 _ _ _ _ _ _) (Ev.neg (by simp) ?_)
        exact specAct_l0 l names r (by omega) (by omega) hr s2 names.length 0 [] (by omega) (by simp)
      · rw [if_neg (fun h => c3 h.2.2), Bool.eq_false_iff.2 c3]
        exact jt
    · rw [if_neg (fun h => c2 h.2.1)]
      exact Ev.neg c2 jt
  · rw [if_neg (fun h => c1 h.1)]
    exact Ev.neg c1 jt
theorem implActiveFaith_ev (l : List IRw) (names : List ByteArray) (r : List Int) (hl : l.length ≤ 1048576) (hm : ∀ y ∈ l, y.f0.length ≤ 4611686018427387904) (hn : names.length ≤ 4611686018427387904) (hr : r.length ≤ 4611686018427387904) : Ev (fun k => impl_ActiveFaith.f k l names r) (activeFaith l names r) := by
  unfold impl_ActiveFaith.f activeFaith
  have jt : Ev (fun k => impl_ActiveFaith.j0 k l names r true) [] := Ev.step (fun k => impl_ActiveFaith.j0.eq_2 _ _ _ _ _) (Ev.pos rfl (Ev.now _))
  refine Ev.bind (implAreConstraints_ev names hn) ?_
  by_cases c1 : areCons names = true
  · refine Ev.pos c1 (Ev.bind (implAreRows_ev l _ (by omega) hm) ?_)
    by_cases c2 : areRows l (names.length : Int) = true
    · refine Ev.pos c2 (Ev.bind (implIsRanking_ev r _) ?_)
      by_cases c3 : isRank r (names.length : Int) = true
      · rw [if_pos ⟨c1, c2, c3⟩, c3]
        obtain ⟨s1, s2, s3⟩ := active_sides l names r c2 c3
        refine Ev.step (fun k => impl_ActiveFaith.j0.eq_2 _ _ _ _ _) (Ev.neg (by simp) ?_)
        rw [← active_eq l names r c3]
        exact implAct_l0 l names r hl hn hr s2 s3 l.length 0 [] (by omega) (by simp)
      · rw [if_neg (fun h => c3 h.2.2), Bool.eq_false_iff.2 c3]
        exact jt
    · rw [if_neg (fun h => c2 h.2.1)]
      exact Ev.neg c2 jt
  · rw [if_neg (fun h => c1 h.1)]
    exact Ev.neg c1 jt
theorem activeFaith_len (l : List IRw) (names : List ByteArray) (r : List Int) : (activeFaith l names r).length ≤ 1000 := by
  unfold activeFaith
  split
  · next c =>
    have h : ∀ d kk, (actFrom l names r kk d).length ≤ d := by
      intro d
      induction d with
      | zero => intro kk; simp [actFrom]
      | succ d ih =>
        intro kk
        unfold actFrom
        have := ih (kk + 1)
        split
        · simp only [List.length_cons]; omega
        · omega
    have := h names.length 0
    have hc := c.2.2
    unfold isRank at hc
    have := (of_decide_eq_true hc).2.1
    omega
  · simp
def marked (n : Nat) (m : Int) : List Int := (List.range n).map (fun i : Nat => m + (i : Int))
theorem marked_length (n : Nat) (m : Int) : (marked n m).length = n := by simp [marked]
theorem marked_at (n : Nat) (m : Int) (i : Nat) (h : i < n) : (marked n m).getD i 0 = m + i := by
  rw [getD_at _ _ _ (by simpa [marked] using h)]; simp [marked]
theorem markIntS_loop (n : Nat) (m : Int) (h0 : 0 ≤ m) (hn : m + n ≤ 4611686018427387904) : ∀ (d i : Nat) (ys : List Int), i + d = n → ys.length = n → ys.take i = (marked n m).take i → Ev (fun k => laws_markIntS.l0 k ys (m + i) (i : Int)) (m + n, marked n m) := by
  intro d
  induction d with
  | zero =>
    intro i ys hi hl ht
    obtain rfl : i = n := by omega
    refine Ev.step (fun k => laws_markIntS.l0.eq_2 _ _ _ _) (Ev.neg (by omega) (Ev.is ?_))
    rw [List.take_of_length_le (by omega), List.take_of_length_le (by rw [marked_length]; omega)] at ht
    rw [ht]
  | succ d ih =>
    intro i ys hi hl ht
    have hlt : i < n := by omega
    obtain ⟨h1, h2⟩ := set_fill (marked n m) ys 0 i (by rw [marked_length]; exact hlt) (by rw [marked_length]; exact hl) ht
    rw [marked_at n m i hlt, marked_length] at *
    refine Ev.step (fun k => laws_markIntS.l0.eq_2 _ _ _ _) (Ev.pos (by omega) (Ev.pos (by omega) ?_))
    rw [wrapS (n := n) (by omega) (by omega), wrapI (m + i + 1) (by omega), Int.toNat_natCast]
    have := ih (i + 1) _ (by omega) h1 h2
    rwa [show m + ((i + 1 : Nat) : Int) = m + i + 1 by omega] at this
theorem markIntS_ev (xs : List Int) (m : Int) (h0 : 0 ≤ m) (hn : m + xs.length ≤ 4611686018427387904) : Ev (fun k => laws_markIntS.f k xs m) (m + xs.length, marked xs.length m) := by
  have := markIntS_loop xs.length m h0 hn xs.length 0 xs (by omega) rfl rfl
  unfold laws_markIntS.f
  simpa using this
theorem markRowS_loop : ∀ (d i : Nat) (ys : List IRw) (m : Int), i + d = ys.length → ys.length ≤ 1048576 → (∀ y ∈ ys, y.f0.length ≤ 1048576) → 0 ≤ m → m + 1048576 * d ≤ 4611686018427387904 →
    ∃ r zs, Ev (fun k => laws_markRowS.l0 k ys m (i : Int)) (r, zs) ∧ 0 ≤ r ∧ r ≤ m + 1048576 * d := by
  intro d
  induction d with
  | zero =>
    intro i ys m hi hl hy h0 hm
    exact ⟨m, ys, Ev.step (fun k => laws_markRowS.l0.eq_2 _ _ _ _) (Ev.neg (by omega) (Ev.now _)), h0, by omega⟩
  | succ d ih =>
    intro i ys m hi hl hy h0 hm
    have hlt : i < ys.length := by omega
    have hx := hy _ (mem_getD ys z96 i hlt)
    obtain ⟨r, zs, hr, h1, h2⟩ := ih (i + 1) (ys.set i ⟨marked (ys.getD i z96).f0.length m⟩) (m + (ys.getD i z96).f0.length) (by rw [List.length_set]; omega) (by rw [List.length_set]; exact hl)
      (fun y hm => by rcases List.mem_or_eq_of_mem_set hm with h | h; exact hy y h; rw [h]; simp only [marked_length]; exact hx) (by omega) (by omega)
    refine ⟨r, zs, Ev.step (fun k => laws_markRowS.l0.eq_2 _ _ _ _) (Ev.pos (by omega) (Ev.pos (by omega) (Ev.bind (by rw [Int.toNat_natCast]; exact markIntS_ev _ m h0 (by omega)) ?_))), h1, by omega⟩
    simp only [Int.toNat_natCast]
    rw [wrapS (n := ys.length) (by omega) (by omega)]
    exact hr
theorem markRowS_any (ys : List IRw) (m : Int) (hl : ys.length ≤ 1048576) (hy : ∀ y ∈ ys, y.f0.length ≤ 1048576) (h0 : 0 ≤ m) (hm : m + 1048576 * ys.length ≤ 4611686018427387904) :
    ∃ r zs, Ev (fun k => laws_markRowS.f k ys m) (r, zs) ∧ 0 ≤ r ∧ r ≤ m + 1048576 * ys.length := markRowS_loop ys.length 0 ys m (by omega) hl hy h0 hm
theorem snums_size (l : List Int) : (strOfNums l).size = l.length := by simp [strOfNums, ByteArray.size]
theorem markText_loop : ∀ (d : Nat) (m : Int) (s : ByteArray), 0 ≤ m → m < 10 ^ d → m ≤ 4611686018427387904 → s.size + d ≤ 1000 → ∃ r, Ev (fun k => laws_markText.l0 k m s) r := by
  intro d
  induction d with
  | zero =>
    intro m s h0 hm hb hs
    have : m = 0 := by simp at hm; omega
    exact ⟨_, Ev.step (fun k => laws_markText.l0.eq_2 _ _ _) (Ev.neg (by omega) (Ev.pos (by omega) (Ev.now _)))⟩
  | succ d ih =>
    intro m s h0 hm hb hs
    by_cases c : m > 0
    · have hd : Int.tdiv m 10 = m / 10 := Int.tdiv_eq_ediv_of_nonneg h0
      have hlt : m / 10 < 10 ^ d := by
        rw [Int.pow_succ] at hm
        omega
      obtain ⟨r, hr⟩ := ih (m / 10) (strOfNums [(wrap64 (48 + (Int.tmod m 10))) % 256] ++ s) (by omega) hlt (by omega) (by rw [ByteArray.size_append, snums_size]; simp only [List.length_singleton]; omega)
      refine ⟨r, Ev.step (fun k => laws_markText.l0.eq_2 _ _ _) (Ev.pos c (Ev.bind (Ev.now _) (Ev.pos (by rw [snums_size]; simp only [List.length_singleton]; omega) ?_)))⟩
      rw [hd, wrapI _ (by omega)]
      exact hr
    · exact ⟨_, Ev.step (fun k => laws_markText.l0.eq_2 _ _ _) (Ev.neg c (Ev.pos (by omega) (Ev.now _)))⟩
theorem markText_any (m : Int) (h0 : 0 ≤ m) (hm : m ≤ 4611686018427387904) : ∃ r, Ev (fun k => laws_markText.f k m) r := by
  unfold laws_markText.f
  by_cases c : m ≤ 0
  · exact ⟨_, Ev.pos c (Ev.now _)⟩
  · obtain ⟨r, hr⟩ := markText_loop 19 m (⟨#[]⟩ : ByteArray) h0 (by omega) hm (by show 0 + 19 ≤ 1000; omega)
    exact ⟨r, Ev.neg c hr⟩
theorem markStringS_loop : ∀ (d i : Nat) (ys : List ByteArray) (m : Int), i + d = ys.length → ys.length ≤ 1048576 → 0 ≤ m → m + d ≤ 4611686018427387904 →
    ∃ zs, Ev (fun k => laws_markStringS.l0 k ys m (i : Int)) (m + d, zs) := by
  intro d
  induction d with
  | zero =>
    intro i ys m hi hl h0 hm
    exact ⟨ys, Ev.step (fun k => laws_markStringS.l0.eq_2 _ _ _ _) (Ev.neg (by omega) (Ev.is (by simp)))⟩
  | succ d ih =>
    intro i ys m hi hl h0 hm
    obtain ⟨s, hs⟩ := markText_any m h0 (by omega)
    obtain ⟨zs, hr⟩ := ih (i + 1) (ys.set i s) (m + 1) (by rw [List.length_set]; omega) (by rw [List.length_set]; exact hl) (by omega) (by omega)
    refine ⟨zs, Ev.step (fun k => laws_markStringS.l0.eq_2 _ _ _ _) (Ev.pos (by omega) (Ev.bind hs (Ev.pos (by omega) ?_)))⟩
    rw [wrapS (n := ys.length) (by omega) (by omega), wrapI (m + 1) (by omega), Int.toNat_natCast, show m + ((d + 1 : Nat) : Int) = m + 1 + d by omega]
    exact hr
theorem markStringS_any (ys : List ByteArray) (m : Int) (hl : ys.length ≤ 1048576) (h0 : 0 ≤ m) (hm : m + ys.length ≤ 4611686018427387904) :
    ∃ zs, Ev (fun k => laws_markStringS.f k ys m) (m + ys.length, zs) := markStringS_loop ys.length 0 ys m (by omega) hl h0 hm
theorem szStringS_loop (xs : List ByteArray) (hn : xs.length ≤ 4611686018427387904) (hy : ∀ y ∈ xs, y.size ≤ maxLen) : ∀ (d i : Nat) (left : Int), i + d = xs.length → 0 ≤ left → left ≤ 1048576 →
    ∃ r, Ev (fun k => laws_szStringS.l0 k xs left (i : Int)) r ∧ -1 ≤ r ∧ r ≤ left ∧ (0 ≤ r → ∀ y ∈ xs.drop i, y.size ≤ 1048576) := by
  intro d
  induction d with
  | zero =>
    intro i left hi h0 h1
    refine ⟨left, Ev.step (fun k => laws_szStringS.l0.eq_2 _ _ _ _) (Ev.neg (by omega) (Ev.now _)), by omega, by omega, fun _ y hm => ?_⟩
    rw [List.drop_of_length_le (by omega)] at hm
    cases hm
  | succ d ih =>
    intro i left hi h0 h1
    have hlt : i < xs.length := by omega
    have hs := hy _ (mem_getD xs ByteArray.empty i hlt)
    unfold maxLen at hs
    have e : rdOf ByteArray.empty xs (i : Int) = xs.getD i ByteArray.empty := rfl
    by_cases c : left - ((xs.getD i ByteArray.empty).size : Int) < 0
    · exact ⟨-1, Ev.step (fun k => laws_szStringS.l0.eq_2 _ _ _ _) (Ev.pos (by omega) (Ev.pos (by omega) (Ev.pos (by rw [e, wrapI _ (by omega)]; exact c) (Ev.now _)))), by omega, by omega, fun h => by omega⟩
    · obtain ⟨r, hr, hr1, hr2, hr3⟩ := ih (i + 1) (left - ((xs.getD i ByteArray.empty).size : Int)) (by omega) (by omega) (by omega)
      refine ⟨r, Ev.step (fun k => laws_szStringS.l0.eq_2 _ _ _ _) (Ev.pos (by omega) (Ev.pos (by omega) (Ev.neg (by rw [e, wrapI _ (by omega)]; exact c) ?_))), hr1, by omega, fun h y hm => ?_⟩
      · rw [e, wrapI _ (by omega), wrapS (Nat.le_of_lt hlt) hn]; exact hr
      · rw [drop_cons xs ByteArray.empty i hlt] at hm
        rcases List.mem_cons.1 hm with rfl | hm
        · omega
        · exact hr3 h y hm
theorem szStringS_ev (xs : List ByteArray) (hn : xs.length ≤ maxLen) (hy : ∀ y ∈ xs, y.size ≤ maxLen) (a : Int) (h0 : 0 ≤ a) (h1 : a ≤ 1048576) :
    ∃ r, Ev (fun k => laws_szStringS.f k xs a) r ∧ -1 ≤ r ∧ r ≤ a ∧ (0 ≤ r → xs.length ≤ 1048576 ∧ ∀ y ∈ xs, y.size ≤ 1048576) :=
  sz_slice (fun k a => laws_szStringS.f k xs a) (fun k left i => laws_szStringS.l0 k xs left i) xs (fun y => y.size ≤ 1048576) hn (fun _ _ => rfl)
    (fun hl left h0 h1 => szStringS_loop xs hl hy xs.length 0 left (by omega) h0 h1) a h0 h1
theorem toStringS_ev (xs : List ByteArray) (hn : xs.length ≤ 1048576) : Ev (fun k => laws_toStringS.f k xs) xs := by
  unfold laws_toStringS.f
  refine Ev.pos (by omega) (Ev.pos (by omega) ?_)
  have h := to_loop (fun k ys i => laws_toStringS.l0 k xs ys i) (fun _ y => some y) (fun t => t) (fun y => y) xs ByteArray.empty (by omega) (fun k ys i => laws_toStringS.l0.eq_2 _ _ _ _)
    (fun y _ => Ev.now _) xs.length 0 (List.replicate xs.length (⟨#[]⟩ : ByteArray)) (by omega) (by rw [List.length_replicate]) rfl
  rw [List.map_id'] at h
  rw [Int.toNat_natCast]
  exact h
theorem eqStringS_ev (xs ys : List ByteArray) (hn : xs.length ≤ 4611686018427387904) : Ev (fun k => laws_eqStringS.f k xs ys) (decide (xs = ys)) :=
  eq_slice _ (fun k i => laws_eqStringS.l0 k xs ys i) xs ys (fun _ => rfl)
    (fun e => eq_loop _ (fun _ a b => some (decide (a = b))) xs ys ByteArray.empty e hn (fun k i => by rw [laws_eqStringS.l0.eq_2]; simp only [Option.bind_some, decide_eq_true_eq, ba_ext]; rfl) (fun a _ b _ => Ev.now _) xs.length 0 (by omega))
theorem heldIntS_loop (n : Nat) (m : Int) (h0 : 0 ≤ m) (hn : m + n ≤ 4611686018427387904) : ∀ (d i : Nat), i + d = n → Ev (fun k => laws_heldIntS.l0 k (marked n m) (m + i) (i : Int)) (m + n) := by
  intro d
  induction d with
  | zero =>
    intro i hi
    obtain rfl : i = n := by omega
    exact Ev.step (fun k => laws_heldIntS.l0.eq_2 _ _ _ _) (Ev.neg (by rw [marked_length]; omega) (Ev.now _))
  | succ d ih =>
    intro i hi
    have hlt : i < n := by omega
    refine Ev.step (fun k => laws_heldIntS.l0.eq_2 _ _ _ _) (Ev.pos (by rw [marked_length]; omega) (Ev.pos (by omega) ?_))
    rw [rdN, marked_at n m i hlt, wrapS (n := n) (by omega) (by omega), wrapI (m + i + 1) (by omega)]
    refine Ev.pos rfl ?_
    have := ih (i + 1) (by omega)
    rwa [show m + ((i + 1 : Nat) : Int) = m + i + 1 by omega] at this
theorem heldIntS_ev (n : Nat) (m : Int) (h0 : 0 ≤ m) (hn : m + n ≤ 4611686018427387904) : Ev (fun k => laws_heldIntS.f k (marked n m) m) (m + n) := by
  have := heldIntS_loop n m h0 hn n 0 (by omega)
  unfold laws_heldIntS.f
  simpa using this
theorem FnExactActiveFaith (l0 : List LRw) (l1 : List (ByteArray)) (l2 : List (Int)) (h0 : (l0.length ≤ maxLen ∧ ∀ y1 ∈ l0, ((y1.f0.length ≤ maxLen ∧ ∀ y2 ∈ y1.f0, (Lit.int .i64 y2).wf = true)))) (h1 : (l1.length ≤ maxLen ∧ ∀ y3 ∈ l1, y3.size ≤ maxLen)) (h2 : (l2.length ≤ maxLen ∧ ∀ y4 ∈ l2, (Lit.int .i64 y4).wf = true)) : ∃ k, laws_FnExactActiveFaith.f k l0 l1 l2 = some true := by
  refine Ev.rounds (g := fun k => laws_FnExactActiveFaith.f k l0 l1 l2) ?_
  unfold laws_FnExactActiveFaith.f
  by_cases c : (l2.length : Int) > 1048576
  · exact Ev.pos c (Ev.now _)
  refine Ev.neg c ?_
  have hn2 : l2.length ≤ 1048576 := by omega
  obtain ⟨q1, e1, a1, a2, a3⟩ := szRowS_ev l0 h0.1 (fun y hy => (h0.2 y hy).1) 1048576 (by omega) (by omega)
  refine Ev.bind e1 ?_
  by_cases c1 : q1 < 0
  · exact Ev.pos c1 (Ev.now _)
  refine Ev.neg c1 ?_
  obtain ⟨b1, b2⟩ := a3 (by omega)
  obtain ⟨q2, e2, a4, a5, a6⟩ := szStringS_ev l1 h1.1 h1.2 q1 (by omega) (by omega)
  refine Ev.bind e2 ?_
  by_cases c2 : q2 < 0
  · exact Ev.pos c2 (Ev.now _)
  refine Ev.neg c2 ?_
  obtain ⟨b3, b4⟩ := a6 (by omega)
  have t0 := toRowS_ev l0 b1 b2
  have t1 := toStringS_ev l1 b3
  have t2 := toIntS_ev l2 (by omega)
  have hl : (l0.map toRw).length ≤ 1048576 := by rw [List.length_map]; exact b1
  have hy : ∀ y ∈ l0.map toRw, y.f0.length ≤ 1048576 := by
    intro y hy
    obtain ⟨z, hz, rfl⟩ := List.mem_map.1 hy
    exact b2 z hz
  generalize l0.map toRw = m0 at *
  have hs := specActiveFaith_ev m0 l1 l2 hl (fun y h => by have := hy y h; omega) (by omega) (by omega)
  have hi := implActiveFaith_ev m0 l1 l2 hl (fun y h => by have := hy y h; omega) (by omega) (by omega)
  have hlen := activeFaith_len m0 l1 l2
  generalize activeFaith m0 l1 l2 = w at *
  obtain ⟨r1, z1, f1, g1, g2⟩ := markRowS_any m0 1 hl hy (by omega) (by omega)
  obtain ⟨z2, f2⟩ := markStringS_any l1 r1 b3 g1 (by omega)
  have f3 := markIntS_ev l2 (r1 + l1.length) (by omega) (by omega)
  have same : ∀ {α : Type} [DecidableEq α] (x : α), decide (x = x) = true := fun x => decide_eq_true rfl
  refine Ev.bind t0 (Ev.bind t1 (Ev.bind t2 (Ev.bind hs (Ev.bind t0 (Ev.bind t1 (Ev.bind t2 (Ev.bind hi (Ev.bind (eqIntS_ev _ _ (by omega)) (Ev.pos (same _) ?_)))))))))
  refine Ev.bind t0 (Ev.bind (eqRowS_ev _ _ (by omega) (fun y h => by have := hy y h; omega)) (Ev.pos (same _) ?_))
  refine Ev.bind t1 (Ev.bind (eqStringS_ev _ _ (by omega)) (Ev.pos (same _) ?_))
  refine Ev.bind t2 (Ev.bind (eqIntS_ev _ _ (by omega)) (Ev.pos (same _) ?_))
  refine Ev.bind f1 (Ev.bind f2 (Ev.bind f3 (Ev.neg (by simp only []; omega) (Ev.bind (eqIntS_ev _ _ (by omega)) (Ev.pos (same _) ?_)))))
  refine Ev.bind (markIntS_ev _ 1 (by omega) (by omega)) (Ev.bind (heldIntS_ev _ 1 (by omega) (by omega)) (Ev.neg (by omega) (Ev.pos rfl ?_)))
  refine Ev.bind t0 (Ev.bind t1 (Ev.bind t2 (Ev.bind hi (Ev.bind (eqIntS_ev _ _ (by omega)) (Ev.pos (same _) ?_)))))
  exact Ev.bind (heldIntS_ev _ 1 (by omega) (by omega)) (Ev.neg (by omega) (Ev.pos rfl (Ev.now _)))
end Go.Proofs.Ytndcgckgkkhbpaa.Pure
