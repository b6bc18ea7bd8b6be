/- The program's DifferencesFor and the reference's answer alike, the argument stays, and what is returned is new. Conditions: what slices and texts may hold at most. -/
import Derived.Test.YtkddpilambnicaaGreatPFnExactDifferencesForx0
import Derived.Test.YtkddpilambnicaaGreatPFnExactDifferencesForx1
import Derived.Test.YtkddpilambnicaaGreatPFnExactDifferencesForx2
import Derived.Test.YtkddpilambnicaaGreatPFnExactDifferencesForx3
import Derived.Test.YtkddpilambnicaaGreatPFnExactDifferencesForx4
import Derived.Test.YtkddpilambnicaaGreatPFnExactDifferencesForx5
import Derived.Test.YtkddpilambnicaaGreatPFnExactDifferencesForx6
import Derived.Test.YtkddpilambnicaaGreatPFnExactDifferencesForx7
import Derived.Test.YtkddpilambnicaaGreatPFnExactDifferencesForx8
import Derived.Test.YtkddpilambnicaaGreatPFnExactDifferencesForx9
import Derived.Test.YtkddpilambnicaaGreatPFnExactDifferencesForx10
import Derived.Test.YtkddpilambnicaaGreatPFnExactDifferencesForx11
import Derived.Test.YtkddpilambnicaaGreatPFnExactDifferencesForx12
import Derived.Test.YtkddpilambnicaaGreatPFnExactDifferencesForx13
import Derived.Test.YtkddpilambnicaaGreatPFnExactDifferencesForx14
import Derived.Test.YtkddpilambnicaaGreatPFnExactDifferencesForx15
import Derived.Test.YtkddpilambnicaaGreatPFnExactDifferencesForx16
import Derived.Test.YtkddpilambnicaaGreatPFnExactDifferencesForx17
import Derived.Test.YtkddpilambnicaaGreatPFnExactDifferencesForx18
import Derived.Test.YtkddpilambnicaaGreatPFnExactDifferencesForx19
import Derived.Test.YtkddpilambnicaaGreatPFnExactDifferencesForx20
import Derived.Test.YtkddpilambnicaaGreatPFnExactDifferencesForx21
import Derived.Test.YtkddpilambnicaaGreatPFnExactDifferencesForx22
import Derived.Test.YtkddpilambnicaaGreatPFnExactDifferencesForx23
import Derived.Test.YtkddpilambnicaaGreatPFnExactDifferencesForx24
import Derived.Test.YtkddpilambnicaaGreatPFnExactDifferencesForx25
import Derived.Test.YtkddpilambnicaaGreatKit
import Derived.WideShapes
import Derived.Laws.Strings
set_option linter.unusedVariables false
set_option linter.unusedSimpArgs false
namespace Go.Proofs.YtkddpilambnicaaGreat.Pure
open Go.RowKit Go.WideShapes Go.Proofs.YtkddpilambnicaaGreat.PFnExactDifferencesFor Go.Proofs.YtkddpilambnicaaGreat.Kit Go.Proofs.YtkddpilambnicaaGreatW.PrintWords Go.Proofs.YtkddpilambnicaaGreatW.PrintLast
def cntF (p : Nat → Bool) : Nat → Nat → Int → Int
  | 0, _, n => n
  | d + 1, i, n => cntF p d (i + 1) (if p i = true then n + 1 else n)
theorem cntF_congr (p q : Nat → Bool) : ∀ (d i : Nat) (n : Int), (∀ j, i ≤ j → j < i + d → p j = q j) → cntF p d i n = cntF q d i n
  | 0, _, _, _ => rfl
  | d + 1, i, n, h => by
    rw [cntF, cntF, h i (Nat.le_refl _) (by omega)]
    exact cntF_congr p q d (i + 1) _ (fun j h1 h2 => h j (by omega) (by omega))
theorem cntF_split (p : Nat → Bool) : ∀ (a b i : Nat) (n : Int), cntF p (a + b) i n = cntF p b (i + a) (cntF p a i n)
  | 0, b, i, n => by rw [Nat.zero_add, Nat.add_zero]; rfl
  | a + 1, b, i, n => by
    rw [show a + 1 + b = (a + b) + 1 by omega, cntF, cntF, cntF_split p a b (i + 1), show i + 1 + a = i + (a + 1) by omega]
theorem cntF_add (p : Nat → Bool) : ∀ (d i : Nat) (n : Int), cntF p d i n = n + cntF p d i 0
  | 0, _, n => by rw [cntF, cntF]; omega
  | d + 1, i, n => by
    rw [cntF, cntF, cntF_add p d (i + 1), cntF_add p d (i + 1) (if p i = true then 0 + 1 else 0)]
    by_cases h : p i = true
    · rw [if_pos h, if_pos h]; omega
    · rw [if_neg h, if_neg h]; omega
theorem cntF_range (p : Nat → Bool) : ∀ (d i : Nat), 0 ≤ cntF p d i 0 ∧ cntF p d i 0 ≤ d
  | 0, _ => by rw [cntF]; omega
  | d + 1, i => by
    rw [cntF, cntF_add]
    have := cntF_range p d (i + 1)
    by_cases h : p i = true
    · rw [if_pos h]; omega
    · rw [if_neg h]; omega
theorem count_from (lo : Nat) (L : Nat → Int → Int → Option Int) (p : Nat → Bool) (N : Nat)
    (hstep : ∀ i, lo ≤ i → i < N → ∀ (n r : Int), 0 ≤ n → n ≤ i → Ev (fun k => L k (if p i = true then n + 1 else n) ((i + 1 : Nat) : Int)) r → Ev (fun k => L k n (i : Int)) r) (hend : ∀ n, Ev (fun k => L k n (N : Int)) n) :
    ∀ (d i : Nat) (n : Int), lo ≤ i → i + d = N → 0 ≤ n → n ≤ i → Ev (fun k => L k n (i : Int)) (cntF p d i n) := by
  intro d
  induction d with
  | zero =>
    intro i n hl hi h0 h1
    obtain rfl : i = N := by omega
    exact hend n
  | succ d ih =>
    intro i n hl hi h0 h1
    rw [cntF]
    refine hstep i hl (by omega) n _ h0 h1 (ih (i + 1) _ (by omega) (by omega) ?_ ?_)
    · by_cases h : p i = true
      · rw [if_pos h]; omega
      · rw [if_neg h]; omega
    · by_cases h : p i = true
      · rw [if_pos h]; omega
      · rw [if_neg h]; omega
theorem count_loop (L : Nat → Int → Int → Option Int) (p : Nat → Bool) (N : Nat)
    (hstep : ∀ i, i < N → ∀ (n r : Int), 0 ≤ n → n ≤ i → Ev (fun k => L k (if p i = true then n + 1 else n) ((i + 1 : Nat) : Int)) r → Ev (fun k => L k n (i : Int)) r) (hend : ∀ n, Ev (fun k => L k n (N : Int)) n)
    (d i : Nat) (n : Int) (hi : i + d = N) (h0 : 0 ≤ n) (h1 : n ≤ i) : Ev (fun k => L k n (i : Int)) (cntF p d i n) := count_from 0 L p N (fun i _ => hstep i) hend d i n (Nat.zero_le _) hi h0 h1
def isSound (b : Int) : Bool := decide (b = 112) || decide (b = 116) || decide (b = 98) || decide (b = 100) || decide (b = 110) || decide (b = 97) || decide (b = 105)
def swapV (a0 : Int) : Int × Bool := if a0 = 112 then (98, true) else (if a0 = 98 then (112, true) else (if a0 = 116 then (100, true) else (if a0 = 100 then (116, true) else (a0, false))))
theorem byte_fin {b : Int} (h : 0 ≤ b ∧ b ≤ 255) : ∃ q : Fin 256, b = (q.val : Int) := ⟨⟨b.toNat, by omega⟩, by simp; omega⟩
set_option maxRecDepth 100000 in
theorem specSound_fin : ∀ q : Fin 256, spec_IsSound.f 9 (q.val : Int) = some (isSound (q.val : Int)) := by decide +kernel
set_option maxRecDepth 100000 in
theorem implSound_fin : ∀ q : Fin 256, impl_IsSound.f (q.val : Int) = some (isSound (q.val : Int)) := by decide +kernel
set_option maxRecDepth 100000 in
theorem implSwap_fin : ∀ q : Fin 256, impl_SwapVoice.f (q.val : Int) = some (swapV (q.val : Int)) := by decide +kernel
theorem specSound_ev (b : Int) (h : 0 ≤ b ∧ b ≤ 255) : Ev (fun k => spec_IsSound.f k b) (isSound b) := by
  obtain ⟨q, rfl⟩ := byte_fin h
  exact Ev.of (fun k => spec_IsSound.mono _ k) (specSound_fin q)
theorem implSound_ev (b : Int) (h : 0 ≤ b ∧ b ≤ 255) : Ev (fun _ => impl_IsSound.f b) (isSound b) := by
  obtain ⟨q, rfl⟩ := byte_fin h
  exact Ev.flat (implSound_fin q)
theorem implSwap_ev (b : Int) (h : 0 ≤ b ∧ b ≤ 255) : Ev (fun _ => impl_SwapVoice.f b) (swapV b) := by
  obtain ⟨q, rfl⟩ := byte_fin h
  exact Ev.flat (implSwap_fin q)
theorem specSwap_ev (b : Int) : Ev (fun _ => spec_SwapVoice.f b) (swapV b) := by
  refine Ev.flat ?_
  unfold spec_SwapVoice.f swapV
  by_cases h1 : b = 112
  · simp [h1]
  · by_cases h2 : b = 98
    · simp [h2]
    · by_cases h3 : b = 116
      · simp [h3]
      · by_cases h4 : b = 100
        · simp [h4]
        · simp [h1, h2, h3, h4]
theorem sound_swap (b : Int) (h : (swapV b).2 = true) : isSound (swapV b).1 = true := by
  unfold swapV at *
  by_cases h1 : b = 112
  · simp [h1, isSound]
  · by_cases h2 : b = 98
    · simp [h2, isSound]
    · by_cases h3 : b = 116
      · simp [h3, isSound]
      · by_cases h4 : b = 100
        · simp [h4, isSound]
        · simp [h1, h2, h3, h4] at h
theorem sound_zero : isSound 0 = false := by decide
theorem sound_lt {b : Int} (h : isSound b = true) : 0 < b ∧ b < 128 := by
  unfold isSound at h
  simp only [Bool.or_eq_true, decide_eq_true_eq] at h
  omega
theorem withinI_ev (a b c : Int) : Ev (fun _ => impl_within.f a b c) (decide (b ≤ a ∧ a ≤ c)) := by
  refine Ev.flat ?_
  unfold impl_within.f
  by_cases h : b ≤ a <;> simp [h]
def isForm (s : ByteArray) : Bool := decide ((∀ j, j < s.size → isSound (bt s (j : Int)) = true) ∧ s.size ≤ 8)
theorem specForm_ev (s : ByteArray) (hs : s.size ≤ 4611686018427387904) : Ev (fun k => spec_IsForm.f k s) (isForm s) := by
  unfold spec_IsForm.f
  have h2 : Ev (fun k => spec_l2Sounds.f k s) (decide ((∀ j, j < s.size → isSound (bt s (j : Int)) = true) ∧ s.size ≤ 20)) := by
    unfold spec_l2Sounds.f
    refine all_from (fun k i => spec_l2Sounds.l0 k s i) 0 s.size (fun j => isSound (bt s (j : Int)) = true) (decide ((s.size : Int) ≤ 20)) (fun i _ hi r h h' => ?_) (Ev.step (fun k => spec_l2Sounds.l0.eq_2 _ _ _) (Ev.neg (by omega) (Ev.now _))) s.size 0 (by omega) (by omega) _ ?_
    · refine Ev.step (fun k => spec_l2Sounds.l0.eq_2 _ _ _) (Ev.pos (by omega) (Ev.pos (by omega) (Ev.bind (specSound_ev _ (bt_range s i)) ?_)))
      rw [wrapS (Nat.le_of_lt hi) hs]
      by_cases c : isSound (bt s (i : Int)) = true
      · exact Ev.pos c (h c)
      · exact Ev.neg c (Ev.is (h' c).symm)
    · simp only [decide_eq_true_eq]
      exact ⟨fun h => ⟨fun j _ h2 => h.1 j h2, by omega⟩, fun h => ⟨fun j h2 => h.1 j (by omega) h2, by omega⟩⟩
  refine Ev.bind h2 ?_
  by_cases c : (∀ j, j < s.size → isSound (bt s (j : Int)) = true) ∧ s.size ≤ 20
  · refine Ev.pos (decide_eq_true c) (Ev.is ?_)
    exact decide_eq_decide.2 ⟨fun h => ⟨c.1, by omega⟩, fun h => by omega⟩
  · refine Ev.neg (by simpa only [decide_eq_true_eq] using c) (Ev.is (decide_eq_false (fun z => c ⟨z.1, by omega⟩)).symm)
theorem empty_iff (s : ByteArray) : s.toList = ([] : List UInt8) ↔ s.size = 0 := by
  rw [ByteArray.toList_eq]
  constructor
  · intro h
    have : s.data.toList.length = 0 := by rw [h]; rfl
    simpa using this
  · intro h
    exact List.eq_nil_of_length_eq_zero (by simpa using h)
theorem implForm_ev (s : ByteArray) (hs : s.size ≤ 4611686018427387904) : Ev (fun k => impl_IsForm.f k s) (isForm s) := by
  unfold impl_IsForm.f
  by_cases c0 : s.size = 0
  · refine Ev.pos ((empty_iff s).2 c0) (Ev.is (decide_eq_true ⟨fun j hj => by omega, by omega⟩).symm)
  refine Ev.neg (fun h => c0 ((empty_iff s).1 h)) ?_
  by_cases c8 : s.size ≤ 8
  · refine Ev.pos (by omega) (Ev.bind (a := isForm s) ?_ (Ev.now _))
    unfold impl_areSounds.f
    refine all_from (fun k i => impl_areSounds.l0 k s (s.size : Int) i) 0 s.size (fun j => isSound (bt s (j : Int)) = true) true (fun i _ hi r h h' => ?_) (Ev.step (fun k => impl_areSounds.l0.eq_2 _ _ _ _) (Ev.neg (by omega) (Ev.bind (withinI_ev _ _ _) (Ev.is (decide_eq_true (by omega)))))) s.size 0 (by omega) (by omega) _ ?_
    · refine Ev.step (fun k => impl_areSounds.l0.eq_2 _ _ _ _) (Ev.pos (by omega) (Ev.pos (by omega) (Ev.pos (by omega) (Ev.bind (implSound_ev _ (bt_range s i)) ?_))))
      rw [wrapS (Nat.le_of_lt hi) hs]
      by_cases c : isSound (bt s (i : Int)) = true
      · exact Ev.pos c (h c)
      · exact Ev.neg c (Ev.is (h' c).symm)
    · unfold isForm
      rw [decide_eq_true_eq]
      exact ⟨fun h => ⟨fun j _ h2 => h.1 j h2, rfl⟩, fun h => ⟨fun j h2 => h.1 j (by omega) h2, c8⟩⟩
  · exact Ev.neg (by omega) (Ev.is (decide_eq_false (fun z => c8 z.2)).symm)
def beforeB (s : ByteArray) (j : Nat) : Int := if j = 0 then 0 else bt s ((j : Int) - 1)
def behindB (s : ByteArray) (j : Nat) : Int := if j + 1 < s.size then bt s ((j + 1 : Nat) : Int) else 0
theorem before_range (s : ByteArray) (j : Nat) : 0 ≤ beforeB s j ∧ beforeB s j ≤ 255 := by
  unfold beforeB
  by_cases c : j = 0
  · rw [if_pos c]; omega
  · rw [if_neg c]; exact bt_range s _
theorem behind_range (s : ByteArray) (j : Nat) : 0 ≤ behindB s j ∧ behindB s j ≤ 255 := by
  unfold behindB
  by_cases c : j + 1 < s.size
  · rw [if_pos c]; exact bt_range s (j + 1)
  · rw [if_neg c]; omega
theorem form_size {s : ByteArray} (hs : isForm s = true) : s.size ≤ 8 := by
  unfold isForm at hs
  exact (of_decide_eq_true hs).2
theorem form_sound {s : ByteArray} (hs : isForm s = true) (j : Nat) (h : j < s.size) : isSound (bt s (j : Int)) = true := by
  unfold isForm at hs
  exact (of_decide_eq_true hs).1 j h
theorem places_ev (s : ByteArray) (hs : isForm s = true) (h : Int → Int → Int → Option Bool) (p : Nat → Bool) (L0 : Nat → Int → Int → Option Int) (J1 J2 : Nat → Int → Int → Int → Int → Int → Option Int)
    (E0 : ∀ k n i, L0 (k + 1) n i = if i < (s.size : Int) then (if i > 0 then (if 0 ≤ (wrap64 (i - 1)) then (if (wrap64 (i - 1)) < (s.size : Int) then J1 k n i (bt s (wrap64 (i - 1))) 0 i else none) else none) else J1 k n i 0 0 i) else some n)
    (E1 : ∀ k n i b c i', J1 (k + 1) n i b c i' = if (wrap64 (i + 1)) < (s.size : Int) then (if 0 ≤ (wrap64 (i + 1)) then J2 k n i b (bt s (wrap64 (i + 1))) i' else none) else J2 k n i b c i')
    (E2 : ∀ k n i b c i', J2 (k + 1) n i b c i' = (impl_IsForm.f k s).bind fun t => (if t = true then (if 0 ≤ i then (if i < (s.size : Int) then ((h b (bt s i) c).bind fun t => (if t = true then L0 k (wrap64 (n + 1)) (wrap64 (i' + 1)) else L0 k n (wrap64 (i' + 1)))) else none) else none) else L0 k n (wrap64 (i' + 1))))
    (hp : ∀ j, j < s.size → h (beforeB s j) (bt s (j : Int)) (behindB s j) = some (p j)) : Ev (fun k => L0 k 0 0) (cntF p s.size 0 0) := by
  have h8 := form_size hs
  refine count_loop L0 p s.size (fun i hi n r h0 h1 hr => ?_) (fun n => Ev.step (fun k => E0 k n s.size) (Ev.neg (by omega) (Ev.now _))) s.size 0 0 (by omega) (by omega) (by omega)
  have w1 : wrap64 ((i : Int) + 1) = ((i + 1 : Nat) : Int) := wrapS (n := i) (Nat.le_refl _) (by omega)
  have w2 : wrap64 (n + 1) = n + 1 := wrapI _ (by omega)
  have w3 : wrap64 ((i : Int) - 1) = (i : Int) - 1 := wrapI _ (by omega)
  have two : Ev (fun k => J2 k n i (beforeB s i) (behindB s i) i) r := by
    refine Ev.step (fun k => E2 k n i _ _ i) (Ev.bind (implForm_ev s (by omega)) (Ev.pos hs (Ev.pos (by omega) (Ev.pos (by omega) (Ev.bind (Ev.flat (hp i hi)) ?_)))))
    rw [w1, w2]
    by_cases c : p i = true
    · rw [if_pos c] at hr; exact Ev.pos c hr
    · rw [if_neg c] at hr; exact Ev.neg c hr
  have one : Ev (fun k => J1 k n i (beforeB s i) 0 i) r := by
    refine Ev.step (fun k => E1 k n i _ 0 i) ?_
    rw [w1]
    unfold behindB at two
    by_cases c : i + 1 < s.size
    · rw [if_pos c] at two; exact Ev.pos (by omega) (Ev.pos (by omega) two)
    · rw [if_neg c] at two; exact Ev.neg (by omega) two
  refine Ev.step (fun k => E0 k n i) (Ev.pos (by omega) ?_)
  rw [w3]
  unfold beforeB at one
  by_cases c : i = 0
  · rw [if_pos c] at one; exact Ev.neg (by omega) one
  · rw [if_neg c] at one; exact Ev.pos (by omega) (Ev.pos (by omega) (Ev.pos (by omega) one))
def vowB (b : Int) : Bool := decide (b = 97) || decide (b = 105)
def obsB (b : Int) : Bool := decide (b = 112) || decide (b = 116) || decide (b = 98) || decide (b = 100)
def voiF (b : Int) : Bool := decide (b = 98) || decide (b = 100) || decide (b = 110) || decide (b = 97) || decide (b = 105)
def nasB (b : Int) : Bool := decide (b = 110)
set_option maxRecDepth 100000 in
theorem feat_fin : ∀ q : Fin 256, spec_HasFeature.f (q.val : Int) 0 = some (vowB (q.val : Int)) ∧ spec_HasFeature.f (q.val : Int) 1 = some (voiF (q.val : Int)) ∧ spec_HasFeature.f (q.val : Int) 2 = some (nasB (q.val : Int)) ∧ spec_IsObstruent.f (q.val : Int) = some (obsB (q.val : Int)) ∧ spec_l8Voiced.f (q.val : Int) = some (obsB (q.val : Int) && voiF (q.val : Int)) := by decide +kernel
set_option maxRecDepth 100000 in
theorem featI_fin : ∀ q : Fin 256, impl_isVowel.f (q.val : Int) = some (vowB (q.val : Int)) ∧ impl_isConsonant.f (q.val : Int) = some (isSound (q.val : Int) && !vowB (q.val : Int)) ∧ impl_isVoiced.f (q.val : Int) = some (obsB (q.val : Int) && voiF (q.val : Int)) ∧ impl_isVoiceless.f (q.val : Int) = some (obsB (q.val : Int) && !voiF (q.val : Int)) ∧ impl_HasFeature.f (q.val : Int) 2 = some (nasB (q.val : Int)) := by decide +kernel
theorem feat (b : Int) (h : 0 ≤ b ∧ b ≤ 255) : spec_HasFeature.f b 0 = some (vowB b) ∧ spec_HasFeature.f b 1 = some (voiF b) ∧ spec_HasFeature.f b 2 = some (nasB b) ∧ spec_IsObstruent.f b = some (obsB b) ∧ spec_l8Voiced.f b = some (obsB b && voiF b) := by
  obtain ⟨q, rfl⟩ := byte_fin h
  exact feat_fin q
theorem featI (b : Int) (h : 0 ≤ b ∧ b ≤ 255) : impl_isVowel.f b = some (vowB b) ∧ impl_isConsonant.f b = some (isSound b && !vowB b) ∧ impl_isVoiced.f b = some (obsB b && voiF b) ∧ impl_isVoiceless.f b = some (obsB b && !voiF b) ∧ impl_HasFeature.f b 2 = some (nasB b) := by
  obtain ⟨q, rfl⟩ := byte_fin h
  exact featI_fin q
def pOnset (s : ByteArray) (j : Nat) : Bool := vowB (bt s (j : Int)) && (decide (j = 0) || vowB (beforeB s j))
def pCoda (s : ByteArray) (j : Nat) : Bool := !vowB (bt s (j : Int)) && !vowB (behindB s j)
def pClus (s : ByteArray) (j : Nat) : Bool := decide (j ≠ 0) && !vowB (beforeB s j) && !vowB (bt s (j : Int))
def pVoi (s : ByteArray) (j : Nat) : Bool := obsB (bt s (j : Int)) && voiF (bt s (j : Int))
def pFin (s : ByteArray) (j : Nat) : Bool := obsB (bt s (j : Int)) && voiF (bt s (j : Int)) && decide (j + 1 = s.size)
def pNas (s : ByteArray) (j : Nat) : Bool := nasB (beforeB s j) && (obsB (bt s (j : Int)) && !voiF (bt s (j : Int)))
theorem before_sound {s : ByteArray} (hs : isForm s = true) (j : Nat) (h : j < s.size) : isSound (beforeB s j) = decide (j ≠ 0) := by
  unfold beforeB
  by_cases c : j = 0
  · rw [if_pos c, sound_zero, c]; rfl
  · rw [if_neg c, show (j : Int) - 1 = ((j - 1 : Nat) : Int) by omega, form_sound hs (j - 1) (by omega)]
    simp [c]
theorem behind_zero {s : ByteArray} (hs : isForm s = true) (j : Nat) (h : j < s.size) : (behindB s j == 0) = decide (j + 1 = s.size) := by
  unfold behindB
  by_cases c : j + 1 < s.size
  · rw [if_pos c]
    have := (sound_lt (form_sound hs (j + 1) c)).1
    rw [show decide (j + 1 = s.size) = false from decide_eq_false (by omega)]
    rw [beq_eq_false_iff_ne]; omega
  · rw [if_neg c, show decide (j + 1 = s.size) = true from decide_eq_true (by omega)]; rfl
theorem implOnset_ev (s : ByteArray) (hs : isForm s = true) : Ev (fun k => impl_CountOnsetless.f k s) (cntF (pOnset s) s.size 0 0) := by
  unfold impl_CountOnsetless.f v_impl_places__CountOnsetless_1.f
  refine Ev.bind (places_ev s hs impl_CountOnsetless_1.f (pOnset s) (fun k n i => v_impl_places__CountOnsetless_1.l0 k s n (s.size : Int) i) (fun k n i b c i' => v_impl_places__CountOnsetless_1.j1 k s n i b c (s.size : Int) i') (fun k n i b c i' => v_impl_places__CountOnsetless_1.j2 k s n i b c (s.size : Int) i') (fun k n i => v_impl_places__CountOnsetless_1.l0.eq_2 _ _ _ _ _) (fun k n i b c i' => v_impl_places__CountOnsetless_1.j1.eq_2 _ _ _ _ _ _ _ _) (fun k n i b c i' => v_impl_places__CountOnsetless_1.j2.eq_2 _ _ _ _ _ _ _ _) (fun j hj => ?_)) (Ev.now _)
  unfold impl_CountOnsetless_1.f pOnset
  rw [(featI _ (bt_range s j)).1, (featI _ (before_range s j)).2.1, before_sound hs j hj]
  simp only [Option.bind_some]
  cases vowB (bt s (j : Int)) <;> cases vowB (beforeB s j) <;> by_cases c : j = 0 <;> simp [c]
theorem implCoda_ev (s : ByteArray) (hs : isForm s = true) : Ev (fun k => impl_CountCodas.f k s) (cntF (pCoda s) s.size 0 0) := by
  unfold impl_CountCodas.f v_impl_places__CountCodas_1.f
  refine Ev.bind (places_ev s hs impl_CountCodas_1.f (pCoda s) (fun k n i => v_impl_places__CountCodas_1.l0 k s n (s.size : Int) i) (fun k n i b c i' => v_impl_places__CountCodas_1.j1 k s n i b c (s.size : Int) i') (fun k n i b c i' => v_impl_places__CountCodas_1.j2 k s n i b c (s.size : Int) i') (fun k n i => v_impl_places__CountCodas_1.l0.eq_2 _ _ _ _ _) (fun k n i b c i' => v_impl_places__CountCodas_1.j1.eq_2 _ _ _ _ _ _ _ _) (fun k n i b c i' => v_impl_places__CountCodas_1.j2.eq_2 _ _ _ _ _ _ _ _) (fun j hj => ?_)) (Ev.now _)
  unfold impl_CountCodas_1.f pCoda
  rw [(featI _ (bt_range s j)).2.1, (featI _ (behind_range s j)).1, form_sound hs j hj]
  simp only [Option.bind_some]
  cases vowB (bt s (j : Int)) <;> simp
theorem implClus_ev (s : ByteArray) (hs : isForm s = true) : Ev (fun k => impl_CountClusters.f k s) (cntF (pClus s) s.size 0 0) := by
  unfold impl_CountClusters.f v_impl_places__CountClusters_1.f
  refine Ev.bind (places_ev s hs impl_CountClusters_1.f (pClus s) (fun k n i => v_impl_places__CountClusters_1.l0 k s n (s.size : Int) i) (fun k n i b c i' => v_impl_places__CountClusters_1.j1 k s n i b c (s.size : Int) i') (fun k n i b c i' => v_impl_places__CountClusters_1.j2 k s n i b c (s.size : Int) i') (fun k n i => v_impl_places__CountClusters_1.l0.eq_2 _ _ _ _ _) (fun k n i b c i' => v_impl_places__CountClusters_1.j1.eq_2 _ _ _ _ _ _ _ _) (fun k n i b c i' => v_impl_places__CountClusters_1.j2.eq_2 _ _ _ _ _ _ _ _) (fun j hj => ?_)) (Ev.now _)
  unfold impl_CountClusters_1.f pClus
  rw [(featI _ (before_range s j)).2.1, (featI _ (bt_range s j)).2.1, form_sound hs j hj, before_sound hs j hj]
  simp only [Option.bind_some]
  cases decide (j ≠ 0) <;> cases vowB (beforeB s j) <;> simp
theorem implVoi_ev (s : ByteArray) (hs : isForm s = true) : Ev (fun k => impl_CountVoiced.f k s) (cntF (pVoi s) s.size 0 0) := by
  unfold impl_CountVoiced.f v_impl_places__CountVoiced_1.f
  refine Ev.bind (places_ev s hs impl_CountVoiced_1.f (pVoi s) (fun k n i => v_impl_places__CountVoiced_1.l0 k s n (s.size : Int) i) (fun k n i b c i' => v_impl_places__CountVoiced_1.j1 k s n i b c (s.size : Int) i') (fun k n i b c i' => v_impl_places__CountVoiced_1.j2 k s n i b c (s.size : Int) i') (fun k n i => v_impl_places__CountVoiced_1.l0.eq_2 _ _ _ _ _) (fun k n i b c i' => v_impl_places__CountVoiced_1.j1.eq_2 _ _ _ _ _ _ _ _) (fun k n i b c i' => v_impl_places__CountVoiced_1.j2.eq_2 _ _ _ _ _ _ _ _) (fun j hj => ?_)) (Ev.now _)
  unfold impl_CountVoiced_1.f pVoi
  rw [(featI _ (bt_range s j)).2.2.1]
  rfl
theorem implFin_ev (s : ByteArray) (hs : isForm s = true) : Ev (fun k => impl_CountFinalVoiced.f k s) (cntF (pFin s) s.size 0 0) := by
  unfold impl_CountFinalVoiced.f v_impl_places__CountFinalVoiced_1.f
  refine Ev.bind (places_ev s hs impl_CountFinalVoiced_1.f (pFin s) (fun k n i => v_impl_places__CountFinalVoiced_1.l0 k s n (s.size : Int) i) (fun k n i b c i' => v_impl_places__CountFinalVoiced_1.j1 k s n i b c (s.size : Int) i') (fun k n i b c i' => v_impl_places__CountFinalVoiced_1.j2 k s n i b c (s.size : Int) i') (fun k n i => v_impl_places__CountFinalVoiced_1.l0.eq_2 _ _ _ _ _) (fun k n i b c i' => v_impl_places__CountFinalVoiced_1.j1.eq_2 _ _ _ _ _ _ _ _) (fun k n i b c i' => v_impl_places__CountFinalVoiced_1.j2.eq_2 _ _ _ _ _ _ _ _) (fun j hj => ?_)) (Ev.now _)
  unfold impl_CountFinalVoiced_1.f pFin
  rw [(featI _ (bt_range s j)).2.2.1, behind_zero hs j hj]
  simp only [Option.bind_some]
  cases (obsB (bt s (j : Int)) && voiF (bt s (j : Int))) <;> simp
theorem implNas_ev (s : ByteArray) (hs : isForm s = true) : Ev (fun k => impl_CountNasalVoiceless.f k s) (cntF (pNas s) s.size 0 0) := by
  unfold impl_CountNasalVoiceless.f v_impl_places__CountNasalVoiceless_1.f
  refine Ev.bind (places_ev s hs impl_CountNasalVoiceless_1.f (pNas s) (fun k n i => v_impl_places__CountNasalVoiceless_1.l0 k s n (s.size : Int) i) (fun k n i b c i' => v_impl_places__CountNasalVoiceless_1.j1 k s n i b c (s.size : Int) i') (fun k n i b c i' => v_impl_places__CountNasalVoiceless_1.j2 k s n i b c (s.size : Int) i') (fun k n i => v_impl_places__CountNasalVoiceless_1.l0.eq_2 _ _ _ _ _) (fun k n i b c i' => v_impl_places__CountNasalVoiceless_1.j1.eq_2 _ _ _ _ _ _ _ _) (fun k n i b c i' => v_impl_places__CountNasalVoiceless_1.j2.eq_2 _ _ _ _ _ _ _ _) (fun j hj => ?_)) (Ev.now _)
  unfold impl_CountNasalVoiceless_1.f pNas
  rw [(featI _ (before_range s j)).2.2.2.2, (featI _ (bt_range s j)).2.2.2.1]
  simp only [Option.bind_some]
  cases nasB (beforeB s j) <;> simp
theorem vowAt_ev (s : ByteArray) (i : Int) : Ev (fun _ => spec_IsVowelAt.f s i) (if 0 ≤ i ∧ i < (s.size : Int) then vowB (bt s i) else false) := by
  unfold spec_IsVowelAt.f
  by_cases h : 0 ≤ i ∧ i < (s.size : Int)
  · refine Ev.to (Ev.pos h.1 (Ev.pos h.2 (Ev.pos h.1 (Ev.bind (Ev.flat (feat _ (bt_range s i)).1) (Ev.now _))))) (if_pos h).symm
  · refine Ev.to ?_ (if_neg h).symm
    by_cases a : i ≥ 0
    · exact Ev.pos a (Ev.neg (fun b => h ⟨a, b⟩) (Ev.now _))
    · exact Ev.neg a (Ev.now _)
theorem vowAt_here (s : ByteArray) (j : Nat) (h : j < s.size) : Ev (fun _ => spec_IsVowelAt.f s (j : Int)) (vowB (bt s (j : Int))) := by
  have := vowAt_ev s (j : Int)
  rwa [if_pos ⟨by omega, by omega⟩] at this
theorem vowAt_before (s : ByteArray) (j : Nat) (h : j < s.size) (h0 : j ≠ 0) : Ev (fun _ => spec_IsVowelAt.f s ((j : Int) - 1)) (vowB (beforeB s j)) := by
  have := vowAt_ev s ((j : Int) - 1)
  rw [if_pos ⟨by omega, by omega⟩] at this
  unfold beforeB
  rwa [if_neg h0]
theorem vowAt_behind (s : ByteArray) (j : Nat) : Ev (fun _ => spec_IsVowelAt.f s ((j + 1 : Nat) : Int)) (vowB (behindB s j)) := by
  have := vowAt_ev s ((j + 1 : Nat) : Int)
  unfold behindB
  by_cases c : j + 1 < s.size
  · rw [if_pos ⟨by omega, by omega⟩] at this; rwa [if_pos c]
  · rw [if_neg (fun h => c (by omega))] at this; rwa [if_neg c]
theorem specOnset_ev (s : ByteArray) (hs : isForm s = true) : Ev (fun k => spec_CountOnsetless.f k s) (cntF (pOnset s) s.size 0 0) := by
  have h8 := form_size hs
  unfold spec_CountOnsetless.f
  refine count_loop (fun k n i => spec_CountOnsetless.l0 k s n i) (pOnset s) s.size (fun i hi n r h0 h1 hr => ?_) (fun n => Ev.step (fun k => spec_CountOnsetless.l0.eq_2 _ _ _ _) (Ev.neg (by omega) (Ev.step (fun k => spec_CountOnsetless.j1.eq_2 _ _ _ _ _) (Ev.neg (by simp) (Ev.now _))))) s.size 0 0 (by omega) (by omega) (by omega)
  refine Ev.step (fun k => spec_CountOnsetless.l0.eq_2 _ _ _ _) (Ev.pos (by omega) (Ev.bind (specForm_ev s (by omega)) (Ev.step (fun k => spec_CountOnsetless.j1.eq_2 _ _ _ _ _) (Ev.pos hs (Ev.bind (vowAt_here s i hi) ?_)))))
  rw [wrapS (n := i) (Nat.le_refl _) (by omega), wrapI (n + 1) (by omega), wrapI ((i : Int) - 1) (by omega)]
  unfold pOnset at hr
  by_cases a : vowB (bt s (i : Int)) = true
  · refine Ev.pos a ?_
    rw [a, Bool.true_and] at hr
    by_cases z : i = 0
    · rw [if_pos (by simp [z])] at hr; exact Ev.pos (by omega) hr
    · refine Ev.neg (by omega) (Ev.bind (vowAt_before s i hi z) ?_)
      rw [decide_eq_false z, Bool.false_or] at hr
      by_cases c : vowB (beforeB s i) = true
      · rw [if_pos c] at hr; exact Ev.pos c hr
      · rw [if_neg c] at hr; exact Ev.neg c hr
  · rw [Bool.eq_false_iff.2 a, Bool.false_and, if_neg (by simp)] at hr
    exact Ev.neg a hr
theorem specCoda_ev (s : ByteArray) (hs : isForm s = true) : Ev (fun k => spec_CountCodas.f k s) (cntF (pCoda s) s.size 0 0) := by
  have h8 := form_size hs
  unfold spec_CountCodas.f
  refine count_loop (fun k n i => spec_CountCodas.l0 k s n i) (pCoda s) s.size (fun i hi n r h0 h1 hr => ?_) (fun n => Ev.step (fun k => spec_CountCodas.l0.eq_2 _ _ _ _) (Ev.neg (by omega) (Ev.step (fun k => spec_CountCodas.j1.eq_2 _ _ _ _ _) (Ev.neg (by simp) (Ev.now _))))) s.size 0 0 (by omega) (by omega) (by omega)
  refine Ev.step (fun k => spec_CountCodas.l0.eq_2 _ _ _ _) (Ev.pos (by omega) (Ev.bind (specForm_ev s (by omega)) (Ev.step (fun k => spec_CountCodas.j1.eq_2 _ _ _ _ _) (Ev.pos hs (Ev.bind (vowAt_here s i hi) ?_)))))
  rw [wrapS (n := i) (Nat.le_refl _) (by omega), wrapI (n + 1) (by omega)]
  unfold pCoda at hr
  by_cases a : vowB (bt s (i : Int)) = true
  · rw [a, if_neg (by simp)] at hr; exact Ev.pos a hr
  · refine Ev.neg a (Ev.bind (vowAt_behind s i) ?_)
    rw [Bool.eq_false_iff.2 a, Bool.not_false, Bool.true_and] at hr
    by_cases c : vowB (behindB s i) = true
    · rw [c, if_neg (by simp)] at hr; exact Ev.pos c hr
    · rw [Bool.eq_false_iff.2 c, if_pos (by simp)] at hr; exact Ev.neg c hr
theorem specVoi_ev (s : ByteArray) (hs : isForm s = true) : Ev (fun k => spec_CountVoiced.f k s) (cntF (pVoi s) s.size 0 0) := by
  have h8 := form_size hs
  unfold spec_CountVoiced.f
  refine count_loop (fun k n i => spec_CountVoiced.l0 k s n i) (pVoi s) s.size (fun i hi n r h0 h1 hr => ?_) (fun n => Ev.step (fun k => spec_CountVoiced.l0.eq_2 _ _ _ _) (Ev.neg (by omega) (Ev.step (fun k => spec_CountVoiced.j1.eq_2 _ _ _ _ _) (Ev.neg (by simp) (Ev.now _))))) s.size 0 0 (by omega) (by omega) (by omega)
  refine Ev.step (fun k => spec_CountVoiced.l0.eq_2 _ _ _ _) (Ev.pos (by omega) (Ev.bind (specForm_ev s (by omega)) (Ev.step (fun k => spec_CountVoiced.j1.eq_2 _ _ _ _ _) (Ev.pos hs (Ev.pos (by omega) (Ev.pos (by omega) (Ev.bind (Ev.flat (feat _ (bt_range s i)).2.2.2.2) ?_)))))))
  rw [wrapS (n := i) (Nat.le_refl _) (by omega), wrapI (n + 1) (by omega)]
  unfold pVoi at hr
  by_cases a : (obsB (bt s (i : Int)) && voiF (bt s (i : Int))) = true
  · rw [if_pos a] at hr; exact Ev.pos a hr
  · rw [if_neg a] at hr; exact Ev.neg a hr
theorem from_one (p : Nat → Bool) (N : Nat) (h : p 0 = false) : cntF p N 0 0 = cntF p (N - 1) 1 0 := by
  cases N with
  | zero => rfl
  | succ N => rw [cntF, h]; rfl
theorem specClus_ev (s : ByteArray) (hs : isForm s = true) : Ev (fun k => spec_CountClusters.f k s) (cntF (pClus s) s.size 0 0) := by
  have h8 := form_size hs
  unfold spec_CountClusters.f
  rw [from_one _ _ (by simp [pClus])]
  have hend : ∀ n i : Int, (s.size : Int) ≤ i → Ev (fun k => spec_CountClusters.l0 k s n i) n := fun n i hi => Ev.step (fun k => spec_CountClusters.l0.eq_2 _ _ _ _) (Ev.neg (by omega) (Ev.step (fun k => spec_CountClusters.j1.eq_2 _ _ _ _ _) (Ev.neg (by simp) (Ev.now _))))
  by_cases z : s.size = 0
  · rw [z]; exact hend 0 1 (by omega)
  refine count_from 1 (fun k n i => spec_CountClusters.l0 k s n i) (pClus s) s.size (fun i hl hi n r h0 h1 hr => ?_) (fun n => hend n _ (by omega)) (s.size - 1) 1 0 (by omega) (by omega) (by omega) (by omega)
  refine Ev.step (fun k => spec_CountClusters.l0.eq_2 _ _ _ _) (Ev.pos (by omega) (Ev.bind (specForm_ev s (by omega)) (Ev.step (fun k => spec_CountClusters.j1.eq_2 _ _ _ _ _) (Ev.pos hs ?_))))
  rw [wrapS (n := i) (Nat.le_refl _) (by omega), wrapI (n + 1) (by omega), wrapI ((i : Int) - 1) (by omega)]
  refine Ev.bind (vowAt_before s i hi (by omega)) ?_
  unfold pClus at hr
  rw [show decide (i ≠ 0) = true from decide_eq_true (by omega), Bool.true_and] at hr
  by_cases a : vowB (beforeB s i) = true
  · rw [a, if_neg (by simp)] at hr; exact Ev.pos a hr
  · refine Ev.neg a (Ev.bind (vowAt_here s i hi) ?_)
    rw [Bool.eq_false_iff.2 a, Bool.not_false, Bool.true_and] at hr
    by_cases c : vowB (bt s (i : Int)) = true
    · rw [c, if_neg (by simp)] at hr; exact Ev.pos c hr
    · rw [Bool.eq_false_iff.2 c, if_pos (by simp)] at hr; exact Ev.neg c hr
theorem specNas_ev (s : ByteArray) (hs : isForm s = true) : Ev (fun k => spec_CountNasalVoiceless.f k s) (cntF (pNas s) s.size 0 0) := by
  have h8 := form_size hs
  unfold spec_CountNasalVoiceless.f
  rw [from_one _ _ (by simp [pNas, beforeB, nasB])]
  have hend : ∀ n i : Int, (s.size : Int) ≤ i → Ev (fun k => spec_CountNasalVoiceless.l0 k s n i) n := fun n i hi => Ev.step (fun k => spec_CountNasalVoiceless.l0.eq_2 _ _ _ _) (Ev.neg (by omega) (Ev.step (fun k => spec_CountNasalVoiceless.j1.eq_2 _ _ _ _ _) (Ev.neg (by simp) (Ev.now _))))
  by_cases z : s.size = 0
  · rw [z]; exact hend 0 1 (by omega)
  refine count_from 1 (fun k n i => spec_CountNasalVoiceless.l0 k s n i) (pNas s) s.size (fun i hl hi n r h0 h1 hr => ?_) (fun n => hend n _ (by omega)) (s.size - 1) 1 0 (by omega) (by omega) (by omega) (by omega)
  refine Ev.step (fun k => spec_CountNasalVoiceless.l0.eq_2 _ _ _ _) (Ev.pos (by omega) (Ev.bind (specForm_ev s (by omega)) (Ev.step (fun k => spec_CountNasalVoiceless.j1.eq_2 _ _ _ _ _) (Ev.pos hs ?_))))
  rw [wrapS (n := i) (Nat.le_refl _) (by omega), wrapI (n + 1) (by omega), wrapI ((i : Int) - 1) (by omega)]
  have hb : bt s ((i : Int) - 1) = beforeB s i := by unfold beforeB; rw [if_neg (by omega)]
  rw [hb]
  refine Ev.pos (by omega) (Ev.pos (by omega) (Ev.bind (Ev.flat (feat _ (before_range s i)).2.2.1) ?_))
  unfold pNas at hr
  by_cases a : nasB (beforeB s i) = true
  · rw [a, Bool.true_and] at hr
    refine Ev.pos a (Ev.pos (by omega) (Ev.pos (by omega) (Ev.bind (Ev.flat (feat _ (bt_range s i)).2.2.2.1) ?_)))
    by_cases b : obsB (bt s (i : Int)) = true
    · rw [b, Bool.true_and] at hr
      refine Ev.pos b (Ev.bind (Ev.flat (feat _ (bt_range s i)).2.1) ?_)
      by_cases c : voiF (bt s (i : Int)) = true
      · rw [c, if_neg (by simp)] at hr; exact Ev.pos c hr
      · rw [Bool.eq_false_iff.2 c, if_pos (by simp)] at hr; exact Ev.neg c hr
    · rw [Bool.eq_false_iff.2 b, Bool.false_and, if_neg (by simp)] at hr; exact Ev.neg b hr
  · rw [Bool.eq_false_iff.2 a, Bool.false_and, if_neg (by simp)] at hr; exact Ev.neg a hr
theorem cnt_none (p : Nat → Bool) : ∀ (d i : Nat), (∀ j, i ≤ j → j < i + d → p j = false) → cntF p d i 0 = 0
  | 0, _, _ => rfl
  | d + 1, i, h => by
    rw [cntF, h i (Nat.le_refl _) (by omega), if_neg (by simp)]
    exact cnt_none p d (i + 1) (fun j h1 h2 => h j (by omega) (by omega))
theorem specFin_ev (s : ByteArray) (hs : isForm s = true) : Ev (fun k => spec_CountFinalVoiced.f k s) (cntF (pFin s) s.size 0 0) := by
  have h8 := form_size hs
  unfold spec_CountFinalVoiced.f
  refine Ev.bind (specForm_ev s (by omega)) (Ev.pos hs ?_)
  by_cases z : s.size = 0
  · rw [z]; exact Ev.pos ((empty_iff s).2 z) (Ev.now _)
  refine Ev.neg (fun h => z ((empty_iff s).1 h)) ?_
  have hw : wrap64 ((s.size : Int) - 1) = ((s.size - 1 : Nat) : Int) := by rw [wrapI _ (by omega)]; omega
  rw [hw]
  refine Ev.pos (by omega) (Ev.pos (by omega) (Ev.bind (Ev.flat (feat _ (bt_range s _)).2.2.2.2) ?_))
  obtain ⟨m, hm⟩ : ∃ m, s.size = m + 1 := ⟨s.size - 1, by omega⟩
  have e : cntF (pFin s) s.size 0 0 = if pFin s m = true then 1 else 0 := by
    rw [hm, cntF_split, cnt_none _ m 0 (fun j h1 h2 => by unfold pFin; rw [decide_eq_false (by omega), Bool.and_false]), Nat.zero_add, cntF, cntF]
    rfl
  have ep : pFin s m = (obsB (bt s ((s.size - 1 : Nat) : Int)) && voiF (bt s ((s.size - 1 : Nat) : Int))) := by
    unfold pFin
    rw [decide_eq_true (by omega), Bool.and_true, show s.size - 1 = m by omega]
  rw [e, ep]
  by_cases c : (obsB (bt s ((s.size - 1 : Nat) : Int)) && voiF (bt s ((s.size - 1 : Nat) : Int))) = true
  · exact Ev.to (Ev.pos c (Ev.now _)) (if_pos c).symm
  · exact Ev.to (Ev.neg c (Ev.now _)) (if_neg c).symm
abbrev Lk := S70
def isLink (i o : Int) : Bool := if i = 0 then isSound o else if isSound i = true then (if o = 0 then true else if o = i then true else if (swapV i).2 = true then ((swapV i).1 == o) else false) else false
theorem isLink_0 {i o : Int} (c : i = 0) : isLink i o = isSound o := by unfold isLink; rw [if_pos c]
theorem isLink_n {i o : Int} (c : ¬ i = 0) (c1 : ¬ isSound i = true) : isLink i o = false := by unfold isLink; rw [if_neg c, if_neg c1]
theorem isLink_o {i o : Int} (c : ¬ i = 0) (c1 : isSound i = true) (c2 : o = 0) : isLink i o = true := by unfold isLink; rw [if_neg c, if_pos c1, if_pos c2]
theorem isLink_e {i o : Int} (c : ¬ i = 0) (c1 : isSound i = true) (c2 : ¬ o = 0) (c3 : o = i) : isLink i o = true := by unfold isLink; rw [if_neg c, if_pos c1, if_neg c2, if_pos c3]
theorem isLink_s {i o : Int} (c : ¬ i = 0) (c1 : isSound i = true) (c2 : ¬ o = 0) (c3 : ¬ o = i) (c4 : (swapV i).2 = true) : isLink i o = ((swapV i).1 == o) := by unfold isLink; rw [if_neg c, if_pos c1, if_neg c2, if_neg c3, if_pos c4]
theorem isLink_f {i o : Int} (c : ¬ i = 0) (c1 : isSound i = true) (c2 : ¬ o = 0) (c3 : ¬ o = i) (c4 : ¬ (swapV i).2 = true) : isLink i o = false := by unfold isLink; rw [if_neg c, if_pos c1, if_neg c2, if_neg c3, if_neg c4]
theorem implLink_ev (i o : Int) (hi : 0 ≤ i ∧ i ≤ 255) (ho : 0 ≤ o ∧ o ≤ 255) : Ev (fun _ => impl_isLink.f i o) (isLink i o) := by
  unfold impl_isLink.f
  by_cases c : i = 0
  · rw [isLink_0 c]
    exact Ev.pos c (Ev.bind (implSound_ev o ho) (Ev.now _))
  · refine Ev.neg c (Ev.bind (implSound_ev i hi) ?_)
    by_cases c1 : isSound i = true
    · refine Ev.pos c1 ?_
      by_cases c2 : o = 0
      · rw [isLink_o c c1 c2]; exact Ev.pos c2 (Ev.now _)
      · refine Ev.neg c2 ?_
        by_cases c3 : o = i
        · rw [isLink_e c c1 c2 c3]; exact Ev.pos c3 (Ev.now _)
        · refine Ev.neg c3 (Ev.bind (implSwap_ev i hi) ?_)
          by_cases c4 : (swapV i).2 = true
          · rw [isLink_s c c1 c2 c3 c4]; exact Ev.pos c4 (Ev.now _)
          · rw [isLink_f c c1 c2 c3 c4]; exact Ev.neg c4 (Ev.now _)
    · rw [isLink_n c c1]; exact Ev.neg c1 (Ev.now _)
def keyOf (o : Bool) (x : Lk) : Int := if o = true then x.f1 else x.f0
def snds (o : Bool) (xs : List Lk) : List Int := (xs.map (keyOf o)).filter (fun b => decide (b ≠ 0))
theorem snds_len (o : Bool) (xs : List Lk) : (snds o xs).length ≤ xs.length := by
  have := List.length_filter_le (fun b : Int => decide (b ≠ 0)) (xs.map (keyOf o))
  rw [List.length_map] at this
  exact this
theorem snds_snoc (o : Bool) (xs : List Lk) (i : Nat) (h : i < xs.length) : snds o (xs.take (i + 1)) = snds o (xs.take i) ++ (if keyOf o (xs.getD i z70) = 0 then [] else [keyOf o (xs.getD i z70)]) := by
  rw [take_succ' xs z70 i h]
  unfold snds
  rw [List.map_append, List.filter_append]
  generalize xs.getD i z70 = x
  congr 1
  by_cases c : keyOf o x = 0
  · rw [if_pos c]; simp [c]
  · rw [if_neg c]; simp [c]
theorem sn_size (l : List Int) : (strOfNums l).size = l.length := by simp [strOfNums, ByteArray.size]
theorem l6In_loop (xs : List Lk) (hn : xs.length ≤ 1000000) : ∀ (d i : Nat), i + d = xs.length → Ev (fun k => spec_l6In.l0 k (snds false (xs.take i)) (i : Int) xs) (strOfNums (snds false xs)) := by
  intro d
  induction d with
  | zero =>
    intro i hi
    rw [List.take_of_length_le (by omega)]
    exact Ev.step (fun k => spec_l6In.l0.eq_2 _ _ _ _) (Ev.neg (by omega) (Ev.now _))
  | succ d ih =>
    intro i hi
    have hlt : i < xs.length := by omega
    have e := snds_snoc false xs i hlt
    have hl := snds_len false (xs.take i)
    rw [List.length_take] at hl
    refine Ev.step (fun k => spec_l6In.l0.eq_2 _ _ _ _) (Ev.pos (by omega) (Ev.pos (by omega) ?_))
    rw [wrapS (n := xs.length) (by omega) (by omega), show rd_T70 xs (i : Int) = xs.getD i z70 from rfl]
    have := ih (i + 1) (by omega)
    by_cases c : (xs.getD i z70).f0 = 0
    · rw [if_pos (show keyOf false (xs.getD i z70) = 0 from c), List.append_nil] at e
      rw [e] at this
      exact Ev.pos c this
    · rw [if_neg (show ¬ keyOf false (xs.getD i z70) = 0 from c)] at e
      rw [e] at this
      exact Ev.neg c (Ev.pos (by omega) this)
theorem l6Out_loop (xs : List Lk) (hn : xs.length ≤ 1000000) : ∀ (d i : Nat), i + d = xs.length → Ev (fun k => spec_l6Out.l0 k (snds true (xs.take i)) (i : Int) xs) (strOfNums (snds true xs)) := by
  intro d
  induction d with
  | zero =>
    intro i hi
    rw [List.take_of_length_le (by omega)]
    exact Ev.step (fun k => spec_l6Out.l0.eq_2 _ _ _ _) (Ev.neg (by omega) (Ev.now _))
  | succ d ih =>
    intro i hi
    have hlt : i < xs.length := by omega
    have e := snds_snoc true xs i hlt
    have hl := snds_len true (xs.take i)
    rw [List.length_take] at hl
    refine Ev.step (fun k => spec_l6Out.l0.eq_2 _ _ _ _) (Ev.pos (by omega) (Ev.pos (by omega) ?_))
    rw [wrapS (n := xs.length) (by omega) (by omega), show rd_T70 xs (i : Int) = xs.getD i z70 from rfl]
    have := ih (i + 1) (by omega)
    by_cases c : (xs.getD i z70).f1 = 0
    · rw [if_pos (show keyOf true (xs.getD i z70) = 0 from c), List.append_nil] at e
      rw [e] at this
      exact Ev.pos c this
    · rw [if_neg (show ¬ keyOf true (xs.getD i z70) = 0 from c)] at e
      rw [e] at this
      exact Ev.neg c (Ev.pos (by omega) this)
theorem implSounds_loop (o : Bool) (xs : List Lk) (hn : xs.length ≤ 1000000) : ∀ (d i : Nat), i + d = xs.length → Ev (fun k => impl_sounds.l0 k o (snds o (xs.take i)) xs (xs.length : Int) (i : Int)) (strOfNums (snds o xs)) := by
  intro d
  induction d with
  | zero =>
    intro i hi
    rw [List.take_of_length_le (by omega)]
    exact Ev.step (fun k => impl_sounds.l0.eq_2 _ _ _ _ _ _) (Ev.neg (by omega) (Ev.now _))
  | succ d ih =>
    intro i hi
    have hlt : i < xs.length := by omega
    have e := snds_snoc o xs i hlt
    have hl := snds_len o (xs.take i)
    rw [List.length_take] at hl
    refine Ev.step (fun k => impl_sounds.l0.eq_2 _ _ _ _ _ _) (Ev.pos (by omega) (Ev.pos (by omega) (Ev.pos (by omega) ?_)))
    rw [wrapS (n := xs.length) (by omega) (by omega), show rd_T70 xs (i : Int) = xs.getD i z70 from rfl]
    have := ih (i + 1) (by omega)
    by_cases c : keyOf o (xs.getD i z70) = 0
    · rw [if_pos c, List.append_nil] at e
      rw [e] at this
      cases o with
      | true => exact Ev.pos rfl (Ev.pos c this)
      | false => exact Ev.neg (by simp) (Ev.pos c this)
    · rw [if_neg c] at e
      rw [e] at this
      cases o with
      | true => exact Ev.pos rfl (Ev.neg c (Ev.pos (by omega) this))
      | false => exact Ev.neg (by simp) (Ev.neg c (Ev.pos (by omega) this))
theorem l6In_ev (xs : List Lk) (hn : xs.length ≤ 1000000) : Ev (fun k => spec_l6In.f k xs) (strOfNums (snds false xs)) := l6In_loop xs hn xs.length 0 (by omega)
theorem l6Out_ev (xs : List Lk) (hn : xs.length ≤ 1000000) : Ev (fun k => spec_l6Out.f k xs) (strOfNums (snds true xs)) := l6Out_loop xs hn xs.length 0 (by omega)
theorem implSounds_ev (o : Bool) (xs : List Lk) (hn : xs.length ≤ 1000000) : Ev (fun k => impl_sounds.f k xs o) (strOfNums (snds o xs)) := implSounds_loop o xs hn xs.length 0 (by omega)
def candTail (xs : List Lk) : Bool := if (xs.length : Int) ≤ 16 then (if isForm (strOfNums (snds false xs)) = true then isForm (strOfNums (snds true xs)) else false) else false
def candOK (xs : List Lk) : Bool := decide (∀ j, j < xs.length → isLink (xs.getD j z70).f0 (xs.getD j z70).f1 = true) && candTail xs
theorem candOK_iff (xs : List Lk) : candOK xs = true ↔ (∀ j, 0 ≤ j → j < xs.length → isLink (xs.getD j z70).f0 (xs.getD j z70).f1 = true) ∧ candTail xs = true := by
  unfold candOK
  rw [Bool.and_eq_true, decide_eq_true_eq]
  exact ⟨fun h => ⟨fun j _ h2 => h.1 j h2, h.2⟩, fun h => ⟨fun j h2 => h.1 j (by omega) h2, h.2⟩⟩
def okLk (xs : List Lk) : Prop := ∀ x ∈ xs, (0 ≤ x.f0 ∧ x.f0 ≤ 255) ∧ (0 ≤ x.f1 ∧ x.f1 ≤ 255)
theorem specCand_step (xs : List Lk) (n : Int) (a b : Int) (ha : 0 ≤ a ∧ a ≤ 255) (hb : 0 ≤ b ∧ b ≤ 255) (r : Bool) (h : isLink a b = true → Ev (fun k => spec_IsCandidate.l0 k (wrap64 (n + 1)) xs) r) (h' : ¬ isLink a b = true → r = false) :
    Ev (fun k => (spec_SwapVoice.f a).bind fun bt128 => (if a = 0 then (if b = 0 then (spec_IsCandidate.j1 k n bt128.1 bt128.2 (b == 0) xs a b) else ((spec_IsSound.f k b).bind fun t130 => (if t130 = true then (spec_IsCandidate.j1 k n bt128.1 bt128.2 (b == 0) xs a b) else (spec_IsCandidate.j1 k n bt128.1 bt128.2 true xs a b)))) else ((spec_IsSound.f k a).bind fun t131 => (if t131 = true then (if b = 0 then (spec_IsCandidate.j1 k n bt128.1 bt128.2 false xs a b) else ((spec_IsSound.f k b).bind fun t132 => (if t132 = true then (spec_IsCandidate.j1 k n bt128.1 bt128.2 false xs a b) else (spec_IsCandidate.j1 k n bt128.1 bt128.2 true xs a b)))) else (spec_IsCandidate.j1 k n bt128.1 bt128.2 true xs a b))))) r := by
  refine Ev.bind (specSwap_ev a) ?_
  have jt : ¬ isLink a b = true → Ev (fun k => spec_IsCandidate.j1 k n (swapV a).1 (swapV a).2 true xs a b) r := fun e => Ev.step (fun k => spec_IsCandidate.j1.eq_2 _ _ _ _ _ _ _ _) (Ev.pos rfl (Ev.is (h' e).symm))
  by_cases c : a = 0
  · refine Ev.pos c ?_
    by_cases c1 : b = 0
    · have e : (b == 0) = true := by simpa using c1
      rw [e]
      refine Ev.pos c1 (jt ?_)
      rw [isLink_0 c, c1, sound_zero]; simp
    · have e : (b == 0) = false := by simpa using c1
      rw [e]
      refine Ev.neg c1 (Ev.bind (specSound_ev b hb) ?_)
      by_cases c2 : isSound b = true
      · refine Ev.pos c2 (Ev.step (fun k => spec_IsCandidate.j1.eq_2 _ _ _ _ _ _ _ _) (Ev.neg (by simp) (Ev.pos c (h ?_))))
        rw [isLink_0 c]; exact c2
      · refine Ev.neg c2 (jt ?_)
        rw [isLink_0 c]; exact c2
  · refine Ev.neg c (Ev.bind (specSound_ev a ha) ?_)
    by_cases c0 : isSound a = true
    · refine Ev.pos c0 ?_
      by_cases c1 : b = 0
      · refine Ev.pos c1 (Ev.step (fun k => spec_IsCandidate.j1.eq_2 _ _ _ _ _ _ _ _) (Ev.neg (by simp) (Ev.neg c (Ev.pos c1 (h ?_)))))
        exact isLink_o c c0 c1
      · refine Ev.neg c1 (Ev.bind (specSound_ev b hb) ?_)
        by_cases c2 : isSound b = true
        · refine Ev.pos c2 (Ev.step (fun k => spec_IsCandidate.j1.eq_2 _ _ _ _ _ _ _ _) (Ev.neg (by simp) (Ev.neg c (Ev.neg c1 ?_))))
          by_cases c3 : a = b
          · refine Ev.pos c3 (h ?_)
            exact isLink_e c c0 c1 c3.symm
          · refine Ev.neg c3 ?_
            by_cases c4 : (swapV a).2 = true
            · have el := isLink_s (o := b) c c0 c1 (fun z => c3 z.symm) c4
              refine Ev.pos c4 ?_
              by_cases c5 : (swapV a).1 = b
              · exact Ev.pos c5 (h (by rw [el]; simpa using c5))
              · exact Ev.neg c5 (Ev.is (h' (by rw [el]; simpa using c5)).symm)
            · exact Ev.neg c4 (Ev.is (h' (by rw [isLink_f c c0 c1 (fun z => c3 z.symm) c4]; simp)).symm)
        · refine Ev.neg c2 (jt (fun z => c2 ?_))
          by_cases c3 : b = a
          · rw [c3]; exact c0
          · by_cases c4 : (swapV a).2 = true
            · rw [isLink_s c c0 c1 c3 c4] at z
              have := sound_swap a c4
              rwa [show (swapV a).1 = b from by simpa using z] at this
            · rw [isLink_f c c0 c1 c3 c4] at z; cases z
    · refine Ev.neg c0 (jt ?_)
      rw [isLink_n c c0]; simp
theorem specIsCandidate_ev (xs : List Lk) (hn : xs.length ≤ 1048576) (hb : okLk xs) : Ev (fun k => spec_IsCandidate.f k xs) (candOK xs) := by
  unfold spec_IsCandidate.f
  refine all_from (fun k i => spec_IsCandidate.l0 k i xs) 0 xs.length (fun j => isLink (xs.getD j z70).f0 (xs.getD j z70).f1 = true) (candTail xs) (fun i _ hi r h h' => ?_) ?_ xs.length 0 (by omega) (by omega) _ (candOK_iff xs)
  · have hbx := hb _ (mem_getD xs z70 i hi)
    refine Ev.step (fun k => spec_IsCandidate.l0.eq_2 _ _ _) (Ev.pos (by omega) (Ev.pos (by omega) ?_))
    rw [show rd_T70 xs (i : Int) = xs.getD i z70 from rfl]
    rw [show ((i + 1 : Nat) : Int) = wrap64 ((i : Int) + 1) from (wrapS (Nat.le_of_lt hi) (by omega)).symm] at h
    exact specCand_step xs (i : Int) _ _ hbx.1 hbx.2 r h h'
  · refine Ev.step (fun k => spec_IsCandidate.l0.eq_2 _ _ _) (Ev.neg (by omega) ?_)
    unfold candTail
    by_cases c : (xs.length : Int) ≤ 16
    · rw [if_pos c]
      have h1 := snds_len false xs
      have h2 := snds_len true xs
      refine Ev.pos c (Ev.bind (l6In_ev xs (by omega)) (Ev.bind (specForm_ev _ (by rw [sn_size]; omega)) ?_))
      by_cases c1 : isForm (strOfNums (snds false xs)) = true
      · rw [if_pos c1]
        exact Ev.pos c1 (Ev.bind (l6Out_ev xs (by omega)) (Ev.bind (specForm_ev _ (by rw [sn_size]; omega)) (Ev.now _)))
      · rw [if_neg c1]; exact Ev.neg c1 (Ev.now _)
    · rw [if_neg c]; exact Ev.neg c (Ev.now _)
theorem implIsCandidate_ev (xs : List Lk) (hn : xs.length ≤ 1048576) (hb : okLk xs) : Ev (fun k => impl_IsCandidate.f k xs) (candOK xs) := by
  unfold impl_IsCandidate.f
  refine all_from (fun k i => impl_IsCandidate.l0 k xs (xs.length : Int) i xs) 0 xs.length (fun j => isLink (xs.getD j z70).f0 (xs.getD j z70).f1 = true) (candTail xs) (fun i _ hi r h h' => ?_) ?_ xs.length 0 (by omega) (by omega) _ (candOK_iff xs)
  · have hbx := hb _ (mem_getD xs z70 i hi)
    refine Ev.step (fun k => impl_IsCandidate.l0.eq_2 _ _ _ _ _) (Ev.pos (by omega) (Ev.pos (by omega) (Ev.pos (by omega) ?_)))
    rw [show rd_T70 xs (i : Int) = xs.getD i z70 from rfl, wrapS (n := xs.length) (by omega) (by omega)]
    refine Ev.bind (implLink_ev _ _ hbx.1 hbx.2) ?_
    by_cases c : isLink (xs.getD i z70).f0 (xs.getD i z70).f1 = true
    · exact Ev.pos c (h c)
    · exact Ev.neg c (Ev.is (h' c).symm)
  · refine Ev.step (fun k => impl_IsCandidate.l0.eq_2 _ _ _ _ _) (Ev.neg (by omega) ?_)
    unfold candTail
    by_cases c : (xs.length : Int) ≤ 16
    · rw [if_pos c]
      have h1 := snds_len false xs
      have h2 := snds_len true xs
      refine Ev.pos c (Ev.bind (implSounds_ev false xs (by omega)) (Ev.bind (implForm_ev _ (by rw [sn_size]; omega)) ?_))
      by_cases c1 : isForm (strOfNums (snds false xs)) = true
      · rw [if_pos c1]
        exact Ev.pos c1 (Ev.bind (implSounds_ev true xs (by omega)) (Ev.bind (implForm_ev _ (by rw [sn_size]; omega)) (Ev.now _)))
      · rw [if_neg c1]; exact Ev.neg c1 (Ev.now _)
    · rw [if_neg c]; exact Ev.neg c (Ev.now _)
theorem links_ev (xs : List Lk) (hn : xs.length ≤ 1048576) (hb : okLk xs) (hc : candOK xs = true) (h : Int → Int → Option Bool) (q : Int → Int → Bool) (hq : ∀ a b, h a b = some (q a b)) (L : Nat → Int → Int → Option Int)
    (E : ∀ k n i, L (k + 1) n i = if i < (xs.length : Int) then (if 0 ≤ i then (if i < (xs.length : Int) then ((impl_IsCandidate.f k xs).bind fun t => (if t = true then ((h ((rd_T70 xs i).f0) ((rd_T70 xs i).f1)).bind fun t => (if t = true then L k (wrap64 (n + 1)) (wrap64 (i + 1)) else L k n (wrap64 (i + 1)))) else L k n (wrap64 (i + 1)))) else none) else none) else some n) :
    Ev (fun k => L k 0 0) (cntF (fun j => q (xs.getD j z70).f0 (xs.getD j z70).f1) xs.length 0 0) := by
  refine count_loop L _ xs.length (fun i hi n r h0 h1 hr => ?_) (fun n => Ev.step (fun k => E k n xs.length) (Ev.neg (by omega) (Ev.now _))) xs.length 0 0 (by omega) (by omega) (by omega)
  refine Ev.step (fun k => E k n i) (Ev.pos (by omega) (Ev.pos (by omega) (Ev.pos (by omega) (Ev.bind (implIsCandidate_ev xs hn hb) (Ev.pos hc (Ev.bind (Ev.flat (hq _ _)) ?_))))))
  rw [show rd_T70 xs (i : Int) = xs.getD i z70 from rfl, wrapS (n := i) (Nat.le_refl _) (by omega), wrapI (n + 1) (by omega)]
  by_cases c : q (xs.getD i z70).f0 (xs.getD i z70).f1 = true
  · rw [if_pos c] at hr; exact Ev.pos c hr
  · rw [if_neg c] at hr; exact Ev.neg c hr
def qDel (_ b : Int) : Bool := b == 0
def qIns (a _ : Int) : Bool := a == 0
def qChg (a b : Int) : Bool := if a = 0 then false else if b = 0 then false else a != b
def lkCnt (q : Int → Int → Bool) (xs : List Lk) : Int := cntF (fun j => q (xs.getD j z70).f0 (xs.getD j z70).f1) xs.length 0 0
theorem implDel_ev (xs : List Lk) (hn : xs.length ≤ 1048576) (hb : okLk xs) (hc : candOK xs = true) : Ev (fun k => impl_CountDeleted.f k xs) (lkCnt qDel xs) := by
  unfold impl_CountDeleted.f v_impl_links__CountDeleted_1.f
  exact Ev.bind (links_ev xs hn hb hc impl_CountDeleted_1.f qDel (fun _ _ => rfl) (fun k n i => v_impl_links__CountDeleted_1.l0 k n xs (xs.length : Int) i xs) (fun k n i => v_impl_links__CountDeleted_1.l0.eq_2 _ _ _ _ _ _)) (Ev.now _)
theorem implIns_ev (xs : List Lk) (hn : xs.length ≤ 1048576) (hb : okLk xs) (hc : candOK xs = true) : Ev (fun k => impl_CountInserted.f k xs) (lkCnt qIns xs) := by
  unfold impl_CountInserted.f v_impl_links__CountInserted_1.f
  exact Ev.bind (links_ev xs hn hb hc impl_CountInserted_1.f qIns (fun _ _ => rfl) (fun k n i => v_impl_links__CountInserted_1.l0 k n xs (xs.length : Int) i xs) (fun k n i => v_impl_links__CountInserted_1.l0.eq_2 _ _ _ _ _ _)) (Ev.now _)
theorem implChg_ev (xs : List Lk) (hn : xs.length ≤ 1048576) (hb : okLk xs) (hc : candOK xs = true) : Ev (fun k => impl_CountVoiceChanged.f k xs) (lkCnt qChg xs) := by
  unfold impl_CountVoiceChanged.f v_impl_links__CountVoiceChanged_1.f
  refine Ev.bind (links_ev xs hn hb hc impl_CountVoiceChanged_1.f qChg (fun a b => ?_) (fun k n i => v_impl_links__CountVoiceChanged_1.l0 k n xs (xs.length : Int) i xs) (fun k n i => v_impl_links__CountVoiceChanged_1.l0.eq_2 _ _ _ _ _ _)) (Ev.now _)
  unfold impl_CountVoiceChanged_1.f qChg
  by_cases c : a = 0
  · rw [if_pos c, if_pos c]
  · by_cases c' : b = 0
    · rw [if_neg c, if_neg c, if_pos c', if_pos c']
    · rw [if_neg c, if_neg c, if_neg c', if_neg c']
theorem specDel_ev (xs : List Lk) (hn : xs.length ≤ 1048576) (hb : okLk xs) (hc : candOK xs = true) : Ev (fun k => spec_CountDeleted.f k xs) (lkCnt qDel xs) := by
  unfold spec_CountDeleted.f
  refine count_loop (fun k n i => spec_CountDeleted.l0 k n i xs) _ xs.length (fun i hi n r h0 h1 hr => ?_) (fun n => Ev.step (fun k => spec_CountDeleted.l0.eq_2 _ _ _ _) (Ev.neg (by omega) (Ev.step (fun k => spec_CountDeleted.j1.eq_2 _ _ _ _ _) (Ev.neg (by simp) (Ev.now _))))) xs.length 0 0 (by omega) (by omega) (by omega)
  refine Ev.step (fun k => spec_CountDeleted.l0.eq_2 _ _ _ _) (Ev.pos (by omega) (Ev.bind (specIsCandidate_ev xs hn hb) (Ev.step (fun k => spec_CountDeleted.j1.eq_2 _ _ _ _ _) (Ev.pos hc (Ev.pos (by omega) (Ev.pos (by omega) ?_))))))
  rw [show rd_T70 xs (i : Int) = xs.getD i z70 from rfl, wrapS (n := i) (Nat.le_refl _) (by omega), wrapI (n + 1) (by omega)]
  unfold qDel at hr
  by_cases c : (xs.getD i z70).f1 = 0
  · rw [if_pos (by simpa using c)] at hr; exact Ev.pos c hr
  · rw [if_neg (by simpa using c)] at hr; exact Ev.neg c hr
theorem specIns_ev (xs : List Lk) (hn : xs.length ≤ 1048576) (hb : okLk xs) (hc : candOK xs = true) : Ev (fun k => spec_CountInserted.f k xs) (lkCnt qIns xs) := by
  unfold spec_CountInserted.f
  refine count_loop (fun k n i => spec_CountInserted.l0 k n i xs) _ xs.length (fun i hi n r h0 h1 hr => ?_) (fun n => Ev.step (fun k => spec_CountInserted.l0.eq_2 _ _ _ _) (Ev.neg (by omega) (Ev.step (fun k => spec_CountInserted.j1.eq_2 _ _ _ _ _) (Ev.neg (by simp) (Ev.now _))))) xs.length 0 0 (by omega) (by omega) (by omega)
  refine Ev.step (fun k => spec_CountInserted.l0.eq_2 _ _ _ _) (Ev.pos (by omega) (Ev.bind (specIsCandidate_ev xs hn hb) (Ev.step (fun k => spec_CountInserted.j1.eq_2 _ _ _ _ _) (Ev.pos hc (Ev.pos (by omega) (Ev.pos (by omega) ?_))))))
  rw [show rd_T70 xs (i : Int) = xs.getD i z70 from rfl, wrapS (n := i) (Nat.le_refl _) (by omega), wrapI (n + 1) (by omega)]
  unfold qIns at hr
  by_cases c : (xs.getD i z70).f0 = 0
  · rw [if_pos (by simpa using c)] at hr; exact Ev.pos c hr
  · rw [if_neg (by simpa using c)] at hr; exact Ev.neg c hr
theorem specChg_ev (xs : List Lk) (hn : xs.length ≤ 1048576) (hb : okLk xs) (hc : candOK xs = true) : Ev (fun k => spec_CountVoiceChanged.f k xs) (lkCnt qChg xs) := by
  unfold spec_CountVoiceChanged.f
  refine count_loop (fun k n i => spec_CountVoiceChanged.l0 k n i xs) _ xs.length (fun i hi n r h0 h1 hr => ?_) (fun n => Ev.step (fun k => spec_CountVoiceChanged.l0.eq_2 _ _ _ _) (Ev.neg (by omega) (Ev.step (fun k => spec_CountVoiceChanged.j1.eq_2 _ _ _ _ _) (Ev.neg (by simp) (Ev.now _))))) xs.length 0 0 (by omega) (by omega) (by omega)
  refine Ev.step (fun k => spec_CountVoiceChanged.l0.eq_2 _ _ _ _) (Ev.pos (by omega) (Ev.bind (specIsCandidate_ev xs hn hb) (Ev.step (fun k => spec_CountVoiceChanged.j1.eq_2 _ _ _ _ _) (Ev.pos hc (Ev.pos (by omega) (Ev.pos (by omega) ?_))))))
  rw [show rd_T70 xs (i : Int) = xs.getD i z70 from rfl, wrapS (n := i) (Nat.le_refl _) (by omega), wrapI (n + 1) (by omega)]
  generalize xs.getD i z70 = x at hr ⊢
  unfold qChg at hr
  by_cases c : x.f0 = 0
  · rw [if_pos c, if_neg (by simp)] at hr; exact Ev.pos c hr
  · refine Ev.neg c ?_
    rw [if_neg c] at hr
    by_cases c' : x.f1 = 0
    · rw [if_pos c', if_neg (by simp)] at hr; exact Ev.pos c' hr
    · refine Ev.neg c' ?_
      rw [if_neg c'] at hr
      by_cases c2 : x.f0 = x.f1
      · rw [if_neg (by simpa using c2)] at hr; exact Ev.pos c2 hr
      · rw [if_pos (by simpa using c2)] at hr; exact Ev.neg c2 hr
def kpt (xs : List Lk) (j : Nat) : Bool := ((xs.getD j z70).f0 != 0) && ((xs.getD j z70).f1 != 0)
def nkp (xs : List Lk) (j : Nat) : Bool := !kpt xs j
/-- How many lie between a and b and are not kept. -/
def cntB (xs : List Lk) (a b : Int) : Int := cntF (nkp xs) (b - a).toNat a.toNat 0
/-- What the two ways of counting know behind i links: the reference first and last kept one, the program its sum, what waits, and whether one was kept. -/
def brkInv (xs : List Lk) (i : Nat) (f l n w : Int) (any : Bool) : Prop :=
  (any = false ∧ f = -1 ∧ l = -1 ∧ n = 0 ∧ w = 0) ∨ (any = true ∧ 0 ≤ f ∧ f ≤ l ∧ l < i ∧ n = cntB xs f l ∧ w = cntB xs l i)
theorem cntB_self (xs : List Lk) (a : Int) : cntB xs a a = 0 := by unfold cntB; rw [show (a - a).toNat = 0 by omega]; rfl
theorem cntB_add (xs : List Lk) (a b c : Int) (h0 : 0 ≤ a) (h1 : a ≤ b) (h2 : b ≤ c) : cntB xs a c = cntB xs a b + cntB xs b c := by
  unfold cntB
  rw [show (c - a).toNat = (b - a).toNat + (c - b).toNat by omega, cntF_split, cntF_add, show a.toNat + (b - a).toNat = b.toNat by omega]
theorem cntB_one (xs : List Lk) (i : Nat) : cntB xs (i : Int) ((i : Int) + 1) = if nkp xs i = true then 1 else 0 := by
  unfold cntB
  rw [show (((i : Int) + 1) - (i : Int)).toNat = 1 by omega, Int.toNat_natCast, cntF, cntF]
  rfl
theorem brk_kept (xs : List Lk) (i : Nat) (f l n w : Int) (any : Bool) (h : brkInv xs i f l n w any) (hk : kpt xs i = true) : brkInv xs (i + 1) (if f < 0 then (i : Int) else f) i (n + w) 0 true := by
  have e1 : cntB xs (i : Int) ((i + 1 : Nat) : Int) = 0 := by
    rw [show ((i + 1 : Nat) : Int) = (i : Int) + 1 by omega, cntB_one]
    unfold nkp
    rw [hk]; rfl
  rcases h with ⟨_, h1, h2, h3, h4⟩ | ⟨_, h1, h2, h3, h4, h5⟩
  · right
    rw [if_pos (by omega)]
    refine ⟨rfl, by omega, by omega, by omega, ?_, e1.symm⟩
    rw [cntB_self]; omega
  · right
    rw [if_neg (by omega)]
    refine ⟨rfl, h1, by omega, by omega, ?_, e1.symm⟩
    rw [h4, h5, ← cntB_add xs f l i h1 h2 (by omega)]
theorem brk_not (xs : List Lk) (i : Nat) (f l n w : Int) (any : Bool) (h : brkInv xs i f l n w any) (hk : ¬ kpt xs i = true) : brkInv xs (i + 1) f l n (if any = true then w + 1 else w) any := by
  rcases h with ⟨h0, h1, h2, h3, h4⟩ | ⟨h0, h1, h2, h3, h4, h5⟩
  · left
    rw [h0, if_neg (by simp)]
    exact ⟨rfl, h1, h2, h3, h4⟩
  · right
    rw [h0, if_pos rfl]
    refine ⟨rfl, h1, h2, by omega, h4, ?_⟩
    rw [show ((i + 1 : Nat) : Int) = (i : Int) + 1 by omega, cntB_add xs l (i : Int) ((i : Int) + 1) (by omega) (by omega) (by omega), cntB_one, ← h5]
    unfold nkp
    rw [Bool.eq_false_iff.2 hk]; rfl
theorem kept9_ev (xs : List Lk) (i : Nat) : Ev (fun _ => spec_l9Kept.f (xs.getD i z70).f0 (xs.getD i z70).f1) (kpt xs i) := by
  unfold spec_l9Kept.f kpt
  generalize xs.getD i z70 = x
  by_cases c : x.f0 = 0
  · exact Ev.pos c (Ev.is (by simp [c]))
  · exact Ev.neg c (Ev.is (by simp [c]))
theorem specBrk_in (xs : List Lk) (hn : xs.length ≤ 1048576) (l : Int) (hl : l ≤ xs.length) : ∀ (d i : Nat) (n : Int), (i : Int) + d = l → 0 ≤ n → n ≤ i → Ev (fun k => spec_CountBreaks.l1 k l n (i : Int) xs) (cntF (nkp xs) d i n) := by
  intro d i n hi h0 h1
  obtain ⟨m, rfl⟩ : ∃ m : Nat, l = (m : Int) := ⟨l.toNat, by omega⟩
  refine count_loop (fun k n i => spec_CountBreaks.l1 k (m : Int) n i xs) (nkp xs) m (fun i hi n r h0 h1 hr => ?_) (fun n => Ev.step (fun k => spec_CountBreaks.l1.eq_2 _ _ _ _ _) (Ev.neg (by omega) (Ev.now _))) d i n (by omega) h0 h1
  refine Ev.step (fun k => spec_CountBreaks.l1.eq_2 _ _ _ _ _) (Ev.pos (by omega) (Ev.pos (by omega) (Ev.pos (by omega) ?_)))
  rw [show rd_T70 xs (i : Int) = xs.getD i z70 from rfl, wrapS (n := i) (Nat.le_refl _) (by omega), wrapI (n + 1) (by omega)]
  refine Ev.bind (kept9_ev xs i) ?_
  unfold nkp at hr
  by_cases c : kpt xs i = true
  · rw [c, if_neg (by simp)] at hr; exact Ev.pos c hr
  · rw [Bool.eq_false_iff.2 c, if_pos (by simp)] at hr; exact Ev.neg c hr
theorem breaks_ev (xs : List Lk) (hn : xs.length ≤ 1048576) (hb : okLk xs) (hc : candOK xs = true) : ∃ r, Ev (fun k => spec_CountBreaks.f k xs) r ∧ Ev (fun k => impl_CountBreaks.f k xs) r := by
  have key : ∀ (d i : Nat) (f l n w : Int) (any : Bool), i + d = xs.length → brkInv xs i f l n w any → ∃ r, Ev (fun k => spec_CountBreaks.l0 k f l (i : Int) xs) r ∧ Ev (fun k => impl_CountBreaks.l0 k n w any xs (xs.length : Int) (i : Int) xs) r := by
    intro d
    induction d with
    | zero =>
      intro i f l n w any hi h
      refine ⟨n, Ev.step (fun k => spec_CountBreaks.l0.eq_2 _ _ _ _ _) (Ev.neg (by omega) (Ev.step (fun k => spec_CountBreaks.j1.eq_2 _ _ _ _ _ _) (Ev.neg (by simp) ?_))), Ev.step (fun k => impl_CountBreaks.l0.eq_2 _ _ _ _ _ _ _ _) (Ev.neg (by omega) (Ev.now _))⟩
      rcases h with ⟨h0, h1, h2, h3, h4⟩ | ⟨h0, h1, h2, h3, h4, h5⟩
      · subst h1 h2 h3
        exact Ev.step (fun k => spec_CountBreaks.l1.eq_2 _ _ _ _ _) (Ev.neg (by unfold mx; omega) (Ev.now _))
      · rw [show mx 0 f = f by unfold mx; omega]
        obtain ⟨a, rfl⟩ : ∃ a : Nat, f = (a : Int) := ⟨f.toNat, by omega⟩
        refine Ev.to (specBrk_in xs hn l (by omega) (l - (a : Int)).toNat a 0 (by omega) (by omega) (by omega)) ?_
        rw [h4]
        unfold cntB
        rw [Int.toNat_natCast]
    | succ d ih =>
      intro i f l n w any hi h
      have hlt : i < xs.length := by omega
      have wi : wrap64 ((i : Int) + 1) = ((i + 1 : Nat) : Int) := wrapS (n := i) (Nat.le_refl _) (by omega)
      have rng : 0 ≤ n ∧ n ≤ 1048576 ∧ 0 ≤ w ∧ w ≤ 1048576 := by
        rcases h with ⟨h0, h1, h2, h3, h4⟩ | ⟨h0, h1, h2, h3, h4, h5⟩
        · omega
        · have r1 := cntF_range (nkp xs) (l - f).toNat f.toNat
          have r2 := cntF_range (nkp xs) ((i : Int) - l).toNat l.toNat
          unfold cntB at h4 h5
          omega
      by_cases c : kpt xs i = true
      · obtain ⟨r, hr1, hr2⟩ := ih (i + 1) _ _ _ _ _ (by omega) (brk_kept xs i f l n w any h c)
        refine ⟨r, Ev.step (fun k => spec_CountBreaks.l0.eq_2 _ _ _ _ _) (Ev.pos (by omega) (Ev.bind (specIsCandidate_ev xs hn hb) (Ev.step (fun k => spec_CountBreaks.j1.eq_2 _ _ _ _ _ _) (Ev.pos hc (Ev.pos (by omega) (Ev.pos (by omega) (Ev.bind (kept9_ev xs i) (Ev.pos c ?_)))))))), Ev.step (fun k => impl_CountBreaks.l0.eq_2 _ _ _ _ _ _ _ _) (Ev.pos (by omega) (Ev.pos (by omega) (Ev.pos (by omega) (Ev.bind (implIsCandidate_ev xs hn hb) (Ev.pos hc ?_)))))⟩
        · rw [wi]
          by_cases z : f < 0
          · rw [if_pos z] at hr1; exact Ev.pos z hr1
          · rw [if_neg z] at hr1; exact Ev.neg z hr1
        · rw [show rd_T70 xs (i : Int) = xs.getD i z70 from rfl]
          unfold kpt at c
          rw [Bool.and_eq_true] at c
          refine Ev.neg (by simpa using c.1) (Ev.step (fun k => impl_CountBreaks.j1.eq_2 _ _ _ _ _ _ _ _ _) (Ev.pos c.2 ?_))
          rw [wrapI (n + w) (by omega)]
          have e : wrap64 ((i : Int) + 1) = ((i + 1 : Nat) : Int) := wi
          rw [e]
          exact hr2
      · obtain ⟨r, hr1, hr2⟩ := ih (i + 1) _ _ _ _ _ (by omega) (brk_not xs i f l n w any h c)
        refine ⟨r, Ev.step (fun k => spec_CountBreaks.l0.eq_2 _ _ _ _ _) (Ev.pos (by omega) (Ev.bind (specIsCandidate_ev xs hn hb) (Ev.step (fun k => spec_CountBreaks.j1.eq_2 _ _ _ _ _ _) (Ev.pos hc (Ev.pos (by omega) (Ev.pos (by omega) (Ev.bind (kept9_ev xs i) (Ev.neg c ?_)))))))), Ev.step (fun k => impl_CountBreaks.l0.eq_2 _ _ _ _ _ _ _ _) (Ev.pos (by omega) (Ev.pos (by omega) (Ev.pos (by omega) (Ev.bind (implIsCandidate_ev xs hn hb) (Ev.pos hc ?_)))))⟩
        · rw [wi]; exact hr1
        · rw [show rd_T70 xs (i : Int) = xs.getD i z70 from rfl]
          have go : Ev (fun k => impl_CountBreaks.j1 k n w any xs (xs.length : Int) (i : Int) false xs) r := by
            refine Ev.step (fun k => impl_CountBreaks.j1.eq_2 _ _ _ _ _ _ _ _ _) (Ev.neg (by simp) ?_)
            rw [wi, wrapI (w + 1) (by omega)]
            by_cases z : any = true
            · rw [if_pos z] at hr2; exact Ev.pos z hr2
            · rw [if_neg z] at hr2; exact Ev.neg z hr2
          by_cases z : (xs.getD i z70).f0 = 0
          · exact Ev.pos z go
          · refine Ev.neg z ?_
            unfold kpt at c
            rw [show ((xs.getD i z70).f1 != 0) = false from by
              cases e : ((xs.getD i z70).f1 != 0) with
              | false => rfl
              | true => exact absurd (by rw [e, Bool.and_true]; simpa using z) c]
            exact go
  unfold spec_CountBreaks.f impl_CountBreaks.f
  exact key xs.length 0 (-1) (-1) 0 0 false (by omega) (.inl ⟨rfl, rfl, rfl, rfl, rfl⟩)
theorem cand_tail {xs : List Lk} (hc : candOK xs = true) : xs.length ≤ 16 ∧ isForm (strOfNums (snds false xs)) = true ∧ isForm (strOfNums (snds true xs)) = true := by
  unfold candOK at hc
  rw [Bool.and_eq_true] at hc
  have h := hc.2
  unfold candTail at h
  by_cases c : (xs.length : Int) ≤ 16
  · rw [if_pos c] at h
    by_cases c1 : isForm (strOfNums (snds false xs)) = true
    · rw [if_pos c1] at h; exact ⟨by omega, c1, h⟩
    · rw [if_neg c1] at h; cases h
  · rw [if_neg c] at h; cases h
theorem specOutputOf_ev (xs : List Lk) (hn : xs.length ≤ 1048576) (hb : okLk xs) : Ev (fun k => spec_OutputOf.f k xs) (if candOK xs = true then strOfNums (snds true xs) else ⟨#[]⟩) := by
  unfold spec_OutputOf.f
  refine Ev.bind (specIsCandidate_ev xs hn hb) (Ev.ite (fun h => ?_) (fun _ => Ev.now _))
  have := (cand_tail h).1
  exact Ev.bind (l6Out_ev xs (by omega)) (Ev.now _)
theorem implOutputOf_ev (xs : List Lk) (hn : xs.length ≤ 1048576) (hb : okLk xs) : Ev (fun k => impl_OutputOf.f k xs) (if candOK xs = true then strOfNums (snds true xs) else ⟨#[]⟩) := by
  unfold impl_OutputOf.f
  refine Ev.bind (implIsCandidate_ev xs hn hb) (Ev.ite (fun h => ?_) (fun _ => Ev.now _))
  have := (cand_tail h).1
  exact Ev.bind (implSounds_ev true xs (by omega)) (Ev.now _)
theorem specInputOf_ev (xs : List Lk) (hn : xs.length ≤ 1048576) (hb : okLk xs) : Ev (fun k => spec_InputOf.f k xs) (if candOK xs = true then strOfNums (snds false xs) else ⟨#[]⟩) := by
  unfold spec_InputOf.f
  refine Ev.bind (specIsCandidate_ev xs hn hb) (Ev.ite (fun h => ?_) (fun _ => Ev.now _))
  have := (cand_tail h).1
  exact Ev.bind (l6In_ev xs (by omega)) (Ev.now _)
theorem implInputOf_ev (xs : List Lk) (hn : xs.length ≤ 1048576) (hb : okLk xs) : Ev (fun k => impl_InputOf.f k xs) (if candOK xs = true then strOfNums (snds false xs) else ⟨#[]⟩) := by
  unfold impl_InputOf.f
  refine Ev.bind (implIsCandidate_ev xs hn hb) (Ev.ite (fun h => ?_) (fun _ => Ev.now _))
  have := (cand_tail h).1
  exact Ev.bind (implSounds_ev false xs (by omega)) (Ev.now _)
theorem viol_ev (nm : ByteArray) (xs : List Lk) (hn : xs.length ≤ 1048576) (hb : okLk xs) : ∃ r, Ev (fun k => spec_ViolationsOf.f k nm xs) r ∧ Ev (fun k => impl_ViolationsOf.f k nm xs) r := by
  unfold spec_ViolationsOf.f impl_ViolationsOf.f
  by_cases hc : candOK xs = true
  · have hf := (cand_tail hc).2.2
    have o1 := specOutputOf_ev xs hn hb
    have o2 := implOutputOf_ev xs hn hb
    rw [if_pos hc] at o1 o2
    generalize strOfNums (snds true xs) = s at *
    have go : ∀ (g1 g2 : Nat → Option Int) , (∃ r, Ev g1 r ∧ Ev g2 r) → ∃ r, Ev (fun k => (spec_IsCandidate.f k xs).bind fun t => (if t = true then ((spec_OutputOf.f k xs).bind fun _ => g1 k) else some (-1))) r ∧ Ev (fun k => (impl_IsCandidate.f k xs).bind fun t => (if t = true then ((impl_OutputOf.f k xs).bind fun _ => g2 k) else some (-1))) r := fun g1 g2 ⟨r, h1, h2⟩ =>
      ⟨r, Ev.bind (specIsCandidate_ev xs hn hb) (Ev.pos hc (Ev.bind o1 h1)), Ev.bind (implIsCandidate_ev xs hn hb) (Ev.pos hc (Ev.bind o2 h2))⟩
    have both : ∀ (c : Prop) [Decidable c] (a1 a2 b1 b2 : Nat → Option Int), (c → ∃ r, Ev a1 r ∧ Ev a2 r) → (¬ c → ∃ r, Ev b1 r ∧ Ev b2 r) → ∃ r, Ev (fun k => if c then a1 k else b1 k) r ∧ Ev (fun k => if c then a2 k else b2 k) r := by
      intro c _ a1 a2 b1 b2 ha hb
      by_cases h : c
      · obtain ⟨r, h1, h2⟩ := ha h; exact ⟨r, Ev.pos h h1, Ev.pos h h2⟩
      · obtain ⟨r, h1, h2⟩ := hb h; exact ⟨r, Ev.neg h h1, Ev.neg h h2⟩
    have leaf : ∀ (a1 a2 : Nat → Option Int) (r : Int), Ev a1 r → Ev a2 r → ∃ r, Ev (fun k => (a1 k).bind fun t => some t) r ∧ Ev (fun k => (a2 k).bind fun t => some t) r := fun a1 a2 r h1 h2 => ⟨r, Ev.bind h1 (Ev.now _), Ev.bind h2 (Ev.now _)⟩
    suffices h : ∃ r, Ev (fun k => if nm.toList = ([111, 110, 115, 101, 116] : List UInt8) then ((spec_CountOnsetless.f k s).bind fun t => (some t)) else (if nm.toList = ([110, 111, 99, 111, 100, 97] : List UInt8) then ((spec_CountCodas.f k s).bind fun t => (some t)) else (if nm.toList = ([99, 108, 117, 115, 116, 101, 114] : List UInt8) then ((spec_CountClusters.f k s).bind fun t => (some t)) else (if nm.toList = ([118, 111, 105, 99, 101] : List UInt8) then ((spec_CountVoiced.f k s).bind fun t => (some t)) else (if nm.toList = ([102, 105, 110, 97, 108] : List UInt8) then ((spec_CountFinalVoiced.f k s).bind fun t => (some t)) else (if nm.toList = ([110, 97, 115, 97, 108] : List UInt8) then ((spec_CountNasalVoiceless.f k s).bind fun t => (some t)) else (if nm.toList = ([109, 97, 120] : List UInt8) then ((spec_CountDeleted.f k xs).bind fun t => (some t)) else (if nm.toList = ([100, 101, 112] : List UInt8) then ((spec_CountInserted.f k xs).bind fun t => (some t)) else (if nm.toList = ([105, 100, 101, 110, 116] : List UInt8) then ((spec_CountVoiceChanged.f k xs).bind fun t => (some t)) else (if nm.toList = ([99, 111, 110, 116, 105, 103] : List UInt8) then ((spec_CountBreaks.f k xs).bind fun t => (some t)) else (some (-1)))))))))))) r ∧
        Ev (fun k => if nm.toList = ([111, 110, 115, 101, 116] : List UInt8) then ((impl_CountOnsetless.f k s).bind fun t => (some t)) else (if nm.toList = ([110, 111, 99, 111, 100, 97] : List UInt8) then ((impl_CountCodas.f k s).bind fun t => (some t)) else (if nm.toList = ([99, 108, 117, 115, 116, 101, 114] : List UInt8) then ((impl_CountClusters.f k s).bind fun t => (some t)) else (if nm.toList = ([118, 111, 105, 99, 101] : List UInt8) then ((impl_CountVoiced.f k s).bind fun t => (some t)) else (if nm.toList = ([102, 105, 110, 97, 108] : List UInt8) then ((impl_CountFinalVoiced.f k s).bind fun t => (some t)) else (if nm.toList = ([110, 97, 115, 97, 108] : List UInt8) then ((impl_CountNasalVoiceless.f k s).bind fun t => (some t)) else (if nm.toList = ([109, 97, 120] : List UInt8) then ((impl_CountDeleted.f k xs).bind fun t => (some t)) else (if nm.toList = ([100, 101, 112] : List UInt8) then ((impl_CountInserted.f k xs).bind fun t => (some t)) else (if nm.toList = ([105, 100, 101, 110, 116] : List UInt8) then ((impl_CountVoiceChanged.f k xs).bind fun t => (some t)) else (if nm.toList = ([99, 111, 110, 116, 105, 103] : List UInt8) then ((impl_CountBreaks.f k xs).bind fun t => (some t)) else (some (-1)))))))))))) r by
      obtain ⟨r, h1, h2⟩ := h
      exact ⟨r, Ev.bind (specIsCandidate_ev xs hn hb) (Ev.pos hc (Ev.bind o1 h1)), Ev.bind (implIsCandidate_ev xs hn hb) (Ev.pos hc (Ev.bind o2 h2))⟩
    refine both _ _ _ _ _ (fun _ => leaf _ _ _ (specOnset_ev s hf) (implOnset_ev s hf)) (fun _ => ?_)
    refine both _ _ _ _ _ (fun _ => leaf _ _ _ (specCoda_ev s hf) (implCoda_ev s hf)) (fun _ => ?_)
    refine both _ _ _ _ _ (fun _ => leaf _ _ _ (specClus_ev s hf) (implClus_ev s hf)) (fun _ => ?_)
    refine both _ _ _ _ _ (fun _ => leaf _ _ _ (specVoi_ev s hf) (implVoi_ev s hf)) (fun _ => ?_)
    refine both _ _ _ _ _ (fun _ => leaf _ _ _ (specFin_ev s hf) (implFin_ev s hf)) (fun _ => ?_)
    refine both _ _ _ _ _ (fun _ => leaf _ _ _ (specNas_ev s hf) (implNas_ev s hf)) (fun _ => ?_)
    refine both _ _ _ _ _ (fun _ => leaf _ _ _ (specDel_ev xs hn hb hc) (implDel_ev xs hn hb hc)) (fun _ => ?_)
    refine both _ _ _ _ _ (fun _ => leaf _ _ _ (specIns_ev xs hn hb hc) (implIns_ev xs hn hb hc)) (fun _ => ?_)
    refine both _ _ _ _ _ (fun _ => leaf _ _ _ (specChg_ev xs hn hb hc) (implChg_ev xs hn hb hc)) (fun _ => ?_)
    refine both _ _ _ _ _ (fun _ => ?_) (fun _ => ⟨-1, Ev.now _, Ev.now _⟩)
    obtain ⟨r, h1, h2⟩ := breaks_ev xs hn hb hc
    exact leaf _ _ r h1 h2
  · exact ⟨-1, Ev.bind (specIsCandidate_ev xs hn hb) (Ev.neg hc (Ev.now _)), Ev.bind (implIsCandidate_ev xs hn hb) (Ev.neg hc (Ev.now _))⟩
def conNames : List ByteArray := (spec_ConstraintNames.f).getD []
theorem conNames_len : conNames.length = 10 := rfl
theorem specNames_ev : Ev (fun _ => spec_ConstraintNames.f) conNames := Ev.flat rfl
theorem implNames_ev : Ev (fun _ => impl_ConstraintNames.f) conNames := Ev.flat rfl
theorem l3Has_loop (xs : List ByteArray) (v : ByteArray) (hn : xs.length ≤ 4611686018427387904) : ∀ (d i : Nat), i + d = xs.length → Ev (fun k => spec_l3Has.l0 k xs v (i : Int)) (decide (v ∈ xs.drop i)) := by
  intro d
  induction d with
  | zero =>
    intro i hi
    refine Ev.step (fun k => spec_l3Has.l0.eq_2 _ _ _ _) (Ev.neg (by omega) (Ev.is ?_))
    rw [List.drop_of_length_le (by omega)]
    simp
  | succ d ih =>
    intro i hi
    have hlt : i < xs.length := by omega
    refine Ev.step (fun k => spec_l3Has.l0.eq_2 _ _ _ _) (Ev.pos (by omega) (Ev.pos (by omega) ?_))
    rw [wrapS (Nat.le_of_lt hlt) hn, show rdOf ByteArray.empty xs (i : Int) = xs.getD i ByteArray.empty from rfl, drop_cons xs ByteArray.empty i hlt]
    by_cases c : xs.getD i ByteArray.empty = v
    · exact Ev.pos (ba_ext.2 c) (Ev.is (decide_eq_true (by rw [c]; exact List.mem_cons_self ..)).symm)
    · refine Ev.neg (fun h => c (ba_ext.1 h)) (Ev.to (ih (i + 1) (by omega)) (decide_eq_decide.2 ⟨fun h => List.mem_cons_of_mem _ h, fun h => ?_⟩))
      rcases List.mem_cons.1 h with h | h
      · exact absurd h.symm c
      · exact h
theorem l3Has_ev (xs : List ByteArray) (v : ByteArray) (hn : xs.length ≤ 4611686018427387904) : Ev (fun k => spec_l3Has.f k xs v) (decide (v ∈ xs)) := by
  unfold spec_l3Has.f
  simpa using l3Has_loop xs v hn xs.length 0 (by omega)
def strIdx (a : ByteArray) : List ByteArray → Int → Int
  | [], _ => -1
  | y :: ys, i => if a = y then i else strIdx a ys (i + 1)
theorem strIndex_loop (xs : List ByteArray) (v : ByteArray) (hn : xs.length ≤ 4611686018427387904) : ∀ (d i : Nat), i + d = xs.length → Ev (fun k => slices_Index_string_string.l0 k xs v (xs.length : Int) (i : Int)) (strIdx v (xs.drop i) i) := by
  intro d
  induction d with
  | zero =>
    intro i hi
    refine Ev.step (fun k => slices_Index_string_string.l0.eq_2 _ _ _ _ _) (Ev.neg (by omega) (Ev.is ?_))
    rw [List.drop_of_length_le (by omega)]
    rfl
  | succ d ih =>
    intro i hi
    have hlt : i < xs.length := by omega
    refine Ev.step (fun k => slices_Index_string_string.l0.eq_2 _ _ _ _ _) (Ev.pos (by omega) (Ev.pos (by omega) (Ev.pos (by omega) ?_)))
    rw [wrapS (Nat.le_of_lt hlt) hn, show rdOf ByteArray.empty xs (i : Int) = xs.getD i ByteArray.empty from rfl, drop_cons xs ByteArray.empty i hlt, strIdx]
    by_cases c : v = xs.getD i ByteArray.empty
    · rw [if_pos c]; exact Ev.pos (ba_ext.2 c) (Ev.now _)
    · rw [if_neg c]; exact Ev.neg (fun h => c (ba_ext.1 h)) (ih (i + 1) (by omega))
theorem strIndex_ev (xs : List ByteArray) (v : ByteArray) (hn : xs.length ≤ 4611686018427387904) : Ev (fun k => slices_Index_string_string.f k xs v) (strIdx v xs 0) := by
  unfold slices_Index_string_string.f
  simpa using strIndex_loop xs v hn xs.length 0 (by omega)
theorem strIdx_ge (v : ByteArray) : ∀ (xs : List ByteArray) (i : Int), strIdx v xs i = -1 ∨ i ≤ strIdx v xs i
  | [], _ => .inl rfl
  | y :: ys, i => by
    rw [strIdx]
    by_cases c : v = y
    · rw [if_pos c]; exact .inr (Int.le_refl _)
    · rw [if_neg c]
      rcases strIdx_ge v ys (i + 1) with h | h
      · exact .inl h
      · exact .inr (by omega)
theorem strIdx_take (v : ByteArray) : ∀ (xs : List ByteArray) (m : Nat) (i : Int), 0 ≤ i → ((0 ≤ strIdx v xs i ∧ strIdx v xs i < i + m) ↔ v ∈ xs.take m)
  | [], m, i, _ => by simp [strIdx]
  | y :: ys, 0, i, h0 => by
    simp only [List.take_zero, List.not_mem_nil, iff_false]
    rcases strIdx_ge v (y :: ys) i with h | h <;> omega
  | y :: ys, m + 1, i, h0 => by
    rw [strIdx, List.take_succ_cons, List.mem_cons]
    by_cases c : v = y
    · rw [if_pos c]; exact ⟨fun _ => .inl c, fun _ => by omega⟩
    · rw [if_neg c]
      have := strIdx_take v ys m (i + 1) (by omega)
      exact ⟨fun h => .inr (this.1 ⟨h.1, by omega⟩), fun h => by
        rcases h with h | h
        · exact absurd h c
        · have := this.2 h; exact ⟨this.1, by omega⟩⟩
theorem strIdx_mem (v : ByteArray) : ∀ (xs : List ByteArray) (i : Int), 0 ≤ i → (0 ≤ strIdx v xs i ↔ v ∈ xs)
  | [], i, _ => by simp [strIdx]
  | y :: ys, i, h0 => by
    rw [strIdx, List.mem_cons]
    by_cases c : v = y
    · rw [if_pos c]; exact ⟨fun _ => .inl c, fun _ => h0⟩
    · rw [if_neg c, strIdx_mem v ys (i + 1) (by omega)]
      exact ⟨fun h => .inr h, fun h => h.resolve_left c⟩
theorem strContains_ev (xs : List ByteArray) (v : ByteArray) (hn : xs.length ≤ 4611686018427387904) : Ev (fun k => slices_Contains_string_string.f k xs v) (decide (v ∈ xs)) := by
  unfold slices_Contains_string_string.f
  refine Ev.bind (strIndex_ev xs v hn) (Ev.is ?_)
  exact decide_eq_decide.2 (strIdx_mem v xs 0 (by omega))
theorem l1In_ev (a b c : Int) : Ev (fun _ => spec_l1In.f a b c) (decide (b ≤ a ∧ a ≤ c)) := by
  refine Ev.flat ?_
  unfold spec_l1In.f
  by_cases h : b ≤ a <;> simp [h]
theorem within_ev (a b c : Int) : Ev (fun _ => impl_within.f a b c) (decide (b ≤ a ∧ a ≤ c)) := by
  refine Ev.flat ?_
  unfold impl_within.f
  by_cases h : b ≤ a <;> simp [h]
def areCons (l : List ByteArray) : Bool := decide ((∀ x ∈ l, x ∈ conNames) ∧ l.Nodup ∧ 1 ≤ (l.length : Int) ∧ (l.length : Int) ≤ 5)
theorem snoc_nodup (l : List ByteArray) (i : Nat) (h : i < l.length) (hd : (l.take i).Nodup) (hm : ¬ l.getD i ByteArray.empty ∈ l.take i) : (l.take (i + 1)).Nodup := by
  rw [take_succ' l ByteArray.empty i h, List.nodup_append]
  exact ⟨hd, by simp, fun a ha b hb e => hm (by rw [List.mem_singleton.1 hb] at e; rw [← e]; exact ha)⟩
theorem nodup_snoc (l : List ByteArray) (i : Nat) (h : i < l.length) (hd : l.Nodup) : ¬ l.getD i ByteArray.empty ∈ l.take i := fun hm => by
  have := hd.sublist (List.take_sublist (i + 1) l)
  rw [take_succ' l ByteArray.empty i h, List.nodup_append] at this
  exact this.2.2 _ hm _ (List.mem_singleton.2 rfl) rfl
theorem all_snoc (l : List ByteArray) (p : ByteArray → Prop) (i : Nat) (h : i < l.length) (ha : ∀ x ∈ l.take i, p x) (hx : p (l.getD i ByteArray.empty)) : ∀ x ∈ l.take (i + 1), p x := by
  rw [take_succ' l ByteArray.empty i h]
  intro x hm
  rcases List.mem_append.1 hm with hm | hm
  · exact ha x hm
  · rw [List.mem_singleton.1 hm]; exact hx
theorem specAreConstraints_loop (l : List ByteArray) (hn : l.length ≤ 4611686018427387904) : ∀ (d i : Nat), i + d = l.length → (l.take i).Nodup → (∀ x ∈ l.take i, x ∈ conNames) → Ev (fun k => spec_AreConstraints.l0 k l (i : Int)) (areCons l) := by
  intro d
  induction d with
  | zero =>
    intro i hi hd hx
    rw [List.take_of_length_le (by omega)] at hd hx
    refine Ev.step (fun k => spec_AreConstraints.l0.eq_2 _ _ _) (Ev.neg (by omega) (Ev.bind (l1In_ev _ _ _) (Ev.is ?_)))
    exact decide_eq_decide.2 ⟨fun h => ⟨hx, hd, h⟩, fun h => h.2.2⟩
  | succ d ih =>
    intro i hi hd hx
    have hlt : i < l.length := by omega
    refine Ev.step (fun k => spec_AreConstraints.l0.eq_2 _ _ _) (Ev.pos (by omega) (Ev.bind specNames_ev (Ev.pos (by omega) (Ev.bind (l3Has_ev conNames _ (by rw [conNames_len]; omega)) ?_))))
    rw [wrapS (Nat.le_of_lt hlt) hn, show rdOf ByteArray.empty l (i : Int) = l.getD i ByteArray.empty from rfl, Int.toNat_natCast]
    by_cases c : l.getD i ByteArray.empty ∈ conNames
    · refine Ev.pos (decide_eq_true c) (Ev.pos (by omega) (Ev.bind (l3Has_ev _ _ (by rw [List.length_take]; omega)) ?_))
      by_cases c2 : l.getD i ByteArray.empty ∈ l.take i
      · refine Ev.pos (decide_eq_true c2) (Ev.is (decide_eq_false (fun h => nodup_snoc l i hlt h.2.1 c2)).symm)
      · exact Ev.neg (by simpa using c2) (ih (i + 1) (by omega) (snoc_nodup l i hlt hd c2) (all_snoc l _ i hlt hx c))
    · exact Ev.neg (by simpa using c) (Ev.is (decide_eq_false (fun h => c (h.1 _ (mem_getD l _ i hlt)))).symm)
theorem specAreConstraints_ev (l : List ByteArray) (hn : l.length ≤ 4611686018427387904) : Ev (fun k => spec_AreConstraints.f k l) (areCons l) :=
  specAreConstraints_loop l hn l.length 0 (by omega) (by simp) (fun _ h => by cases h)
theorem implAreConstraints_loop (l : List ByteArray) (hn : l.length ≤ 4611686018427387904) : ∀ (d i : Nat), i + d = l.length → (l.take i).Nodup → (∀ x ∈ l.take i, x ∈ conNames) → Ev (fun k => impl_AreConstraints.l0 k l l (l.length : Int) (i : Int)) (areCons l) := by
  intro d
  induction d with
  | zero =>
    intro i hi hd hx
    rw [List.take_of_length_le (by omega)] at hd hx
    refine Ev.step (fun k => impl_AreConstraints.l0.eq_2 _ _ _ _ _) (Ev.neg (by omega) (Ev.bind (within_ev _ _ _) (Ev.is ?_)))
    exact decide_eq_decide.2 ⟨fun h => ⟨hx, hd, h⟩, fun h => h.2.2⟩
  | succ d ih =>
    intro i hi hd hx
    have hlt : i < l.length := by omega
    refine Ev.step (fun k => impl_AreConstraints.l0.eq_2 _ _ _ _ _) (Ev.pos (by omega) (Ev.pos (by omega) (Ev.pos (by omega) (Ev.bind implNames_ev (Ev.bind (strContains_ev conNames _ (by rw [conNames_len]; omega)) ?_)))))
    rw [wrapS (Nat.le_of_lt hlt) hn, show rdOf ByteArray.empty l (i : Int) = l.getD i ByteArray.empty from rfl, Int.toNat_natCast]
    by_cases c : l.getD i ByteArray.empty ∈ conNames
    · refine Ev.pos (decide_eq_true c) (Ev.pos (by omega) (Ev.bind (strContains_ev _ _ (by rw [List.length_take]; omega)) ?_))
      by_cases c2 : l.getD i ByteArray.empty ∈ l.take i
      · refine Ev.pos (decide_eq_true c2) (Ev.is (decide_eq_false (fun h => nodup_snoc l i hlt h.2.1 c2)).symm)
      · exact Ev.neg (by simpa using c2) (ih (i + 1) (by omega) (snoc_nodup l i hlt hd c2) (all_snoc l _ i hlt hx c))
    · exact Ev.neg (by simpa using c) (Ev.is (decide_eq_false (fun h => c (h.1 _ (mem_getD l _ i hlt)))).symm)
theorem implAreConstraints_ev (l : List ByteArray) (hn : l.length ≤ 4611686018427387904) : Ev (fun k => impl_AreConstraints.f k l) (areCons l) :=
  implAreConstraints_loop l hn l.length 0 (by omega) (by simp) (fun _ h => by cases h)
theorem prof_ev (names : List ByteArray) (xs : List Lk) (hl : names.length ≤ 4611686018427387904) (hn : xs.length ≤ 1048576) (hb : okLk xs) : ∃ r, Ev (fun k => spec_ProfileOf.f k names xs) r ∧ Ev (fun k => impl_ProfileOf.f k names xs) r ∧ r.length ≤ 5 ∧ (areCons names = true → candOK xs = true → r.length = names.length) := by
  unfold spec_ProfileOf.f impl_ProfileOf.f
  have n0 : ∀ (n : Int) (out : List Int), areCons names = true → ¬ candOK xs = true → Ev (fun k => spec_ProfileOf.l0 k names out n xs) out := fun n out hc h => by
    by_cases z : n < (names.length : Int)
    · exact Ev.step (fun k => spec_ProfileOf.l0.eq_2 _ _ _ _ _) (Ev.pos z (Ev.bind (specAreConstraints_ev names hl) (Ev.pos hc (Ev.bind (specIsCandidate_ev xs hn hb) (Ev.neg h (Ev.now _))))))
    · exact Ev.step (fun k => spec_ProfileOf.l0.eq_2 _ _ _ _ _) (Ev.neg z (Ev.now _))
  by_cases hc : areCons names = true
  · have h5 : names.length ≤ 5 := by
      unfold areCons at hc
      have := of_decide_eq_true hc
      omega
    by_cases h : candOK xs = true
    · have key : ∀ (d i : Nat) (out : List Int), i + d = names.length → out.length = i → ∃ r, Ev (fun k => spec_ProfileOf.l0 k names out (i : Int) xs) r ∧ Ev (fun k => impl_ProfileOf.l0 k out names (names.length : Int) (i : Int) xs) r ∧ r.length = names.length := by
        intro d
        induction d with
        | zero =>
          intro i out hi ho
          exact ⟨out, Ev.step (fun k => spec_ProfileOf.l0.eq_2 _ _ _ _ _) (Ev.neg (by omega) (Ev.now _)), Ev.step (fun k => impl_ProfileOf.l0.eq_2 _ _ _ _ _ _) (Ev.neg (by omega) (Ev.now _)), by omega⟩
        | succ d ih =>
          intro i out hi ho
          obtain ⟨v, v1, v2⟩ := viol_ev (names.getD i ByteArray.empty) xs hn hb
          obtain ⟨r, r1, r2, r3⟩ := ih (i + 1) (out ++ [v]) (by omega) (by rw [List.length_append, List.length_singleton]; omega)
          have wi : wrap64 ((i : Int) + 1) = ((i + 1 : Nat) : Int) := wrapS (n := i) (Nat.le_refl _) (by omega)
          refine ⟨r, Ev.step (fun k => spec_ProfileOf.l0.eq_2 _ _ _ _ _) (Ev.pos (by omega) (Ev.bind (specAreConstraints_ev names hl) (Ev.pos hc (Ev.bind (specIsCandidate_ev xs hn hb) (Ev.pos h (Ev.pos (by omega) (Ev.bind v1 (Ev.pos (by omega) ?_)))))))), Ev.step (fun k => impl_ProfileOf.l0.eq_2 _ _ _ _ _ _) (Ev.pos (by omega) (Ev.pos (by omega) (Ev.pos (by omega) (Ev.bind v2 (Ev.pos (by omega) ?_))))), r3⟩
          · rw [wi]; exact r1
          · rw [wi]; exact r2
      obtain ⟨r, r1, r2, r3⟩ := key names.length 0 [] (by omega) rfl
      exact ⟨r, r1, Ev.bind (implAreConstraints_ev names hl) (Ev.pos hc (Ev.bind (implIsCandidate_ev xs hn hb) (Ev.step (fun k => impl_ProfileOf.j0.eq_2 _ _ _ _) (Ev.neg (by rw [h]; simp) r2)))), by omega, fun _ _ => r3⟩
    · exact ⟨[], n0 0 [] hc h, Ev.bind (implAreConstraints_ev names hl) (Ev.pos hc (Ev.bind (implIsCandidate_ev xs hn hb) (Ev.step (fun k => impl_ProfileOf.j0.eq_2 _ _ _ _) (Ev.pos (by rw [Bool.eq_false_iff.2 h]; rfl) (Ev.now _))))), by simp, fun _ z => absurd z h⟩
  · refine ⟨[], ?_, Ev.bind (implAreConstraints_ev names hl) (Ev.neg hc (Ev.step (fun k => impl_ProfileOf.j0.eq_2 _ _ _ _) (Ev.pos rfl (Ev.now _)))), by simp, fun z => absurd z hc⟩
    by_cases z : (0 : Int) < (names.length : Int)
    · exact Ev.step (fun k => spec_ProfileOf.l0.eq_2 _ _ _ _ _) (Ev.pos z (Ev.bind (specAreConstraints_ev names hl) (Ev.neg hc (Ev.now _))))
    · exact Ev.step (fun k => spec_ProfileOf.l0.eq_2 _ _ _ _ _) (Ev.neg z (Ev.now _))
abbrev LLk := S107
abbrev LCd := S75
abbrev ICd := S50
deriving instance DecidableEq for S70
deriving instance DecidableEq for S50
def toLk (y : LLk) : S70 := ⟨y.f0, y.f1⟩
def toCd (y : LCd) : ICd := ⟨y.f0.map toLk⟩
theorem szCand_ev (y : LCd) (hy : y.f0.length ≤ maxLen) (a : Int) (h0 : 0 ≤ a) (h1 : a ≤ 1048576) : ∃ r, Ev (fun _ => laws_szCandidate.f y.f0 a) r ∧ -1 ≤ r ∧ r ≤ a ∧ (0 ≤ r → y.f0.length ≤ 1048576) := by
  obtain ⟨r, hr, h1, h2, h3⟩ := sz_leaf a y.f0.length hy h0 h1
  have hs : Ev (fun _ : Nat => laws_szLinkS.f y.f0 a) r := Ev.flat hr
  unfold laws_szCandidate.f
  by_cases c : r < 0
  · exact ⟨-1, Ev.bind hs (Ev.pos c (Ev.now _)), by omega, by omega, fun h => by omega⟩
  · exact ⟨r, Ev.bind hs (Ev.neg c (Ev.now _)), h1, h2, h3⟩
theorem szCandS_ev (xs : List LCd) (hn : xs.length ≤ maxLen) (hy : ∀ y ∈ xs, y.f0.length ≤ maxLen) (a : Int) (h0 : 0 ≤ a) (h1 : a ≤ 1048576) :
    ∃ r, Ev (fun k => laws_szCandidateS.f k xs a) r ∧ -1 ≤ r ∧ r ≤ a ∧ (0 ≤ r → xs.length ≤ 1048576 ∧ ∀ y ∈ xs, y.f0.length ≤ 1048576) :=
  sz_slice (fun k a => laws_szCandidateS.f k xs a) (fun k left i => laws_szCandidateS.l0 k xs left i) xs (fun y => y.f0.length ≤ 1048576) hn (fun _ _ => rfl)
    (fun hl left h0 h1 => sz_loop (fun k left i => laws_szCandidateS.l0 k xs left i) (fun _ (y : LCd) left => laws_szCandidate.f y.f0 left) xs z75 (fun y => y.f0.length ≤ 1048576) hl (fun k left i => by rw [laws_szCandidateS.l0.eq_2, show rd_T75 xs (i : Int) = xs.getD i z75 from rfl]) (fun y hm left h0 h1 => szCand_ev y (hy y hm) left h0 h1) xs.length 0 left (by omega) h0 h1) a h0 h1
theorem toLinkS_ev (xs : List LLk) (hn : xs.length ≤ 1048576) : Ev (fun k => laws_toLinkS.f k xs) (xs.map toLk) := by
  unfold laws_toLinkS.f
  refine Ev.pos (by omega) (Ev.pos (by omega) ?_)
  rw [Int.toNat_natCast]
  exact to_loop (fun k ys i => laws_toLinkS.l0 k xs ys i) (fun _ y => laws_toLink.f y.f0 y.f1) (fun t => (⟨t.1, t.2⟩ : S70)) (fun y => (y.f0, y.f1)) xs z107 (by omega) (fun k ys i => laws_toLinkS.l0.eq_2 _ _ _ _)
    (fun y _ => Ev.flat (by rfl)) xs.length 0 (List.replicate xs.length z70) (by omega) (by rw [List.length_replicate]) rfl
theorem toCandS_ev (xs : List LCd) (hn : xs.length ≤ 1048576) (hy : ∀ y ∈ xs, y.f0.length ≤ 1048576) : Ev (fun k => laws_toCandidateS.f k xs) (xs.map toCd) := by
  unfold laws_toCandidateS.f
  refine Ev.pos (by omega) (Ev.pos (by omega) ?_)
  rw [Int.toNat_natCast]
  exact to_loop (fun k ys i => laws_toCandidateS.l0 k xs ys i) (fun k y => laws_toCandidate.f k y.f0) (fun t => (⟨t⟩ : ICd)) (fun y => y.f0.map toLk) xs z75 (by omega) (fun k ys i => laws_toCandidateS.l0.eq_2 _ _ _ _)
    (fun y hm => Ev.bind (toLinkS_ev y.f0 (hy y hm)) (Ev.now _)) xs.length 0 (List.replicate xs.length z50) (by omega) (by rw [List.length_replicate]) rfl
theorem eqLink_ev (a b : S70) : Ev (fun _ => laws_eqLink.f a.f0 a.f1 b.f0 b.f1) (decide (a = b)) := by
  refine Ev.flat ?_
  unfold laws_eqLink.f
  obtain ⟨a0, a1⟩ := a
  obtain ⟨b0, b1⟩ := b
  by_cases h : a0 = b0 <;> by_cases h' : a1 = b1 <;> simp [h, h']
theorem eqLinkS_ev (xs ys : List (S70)) (hn : xs.length ≤ 4611686018427387904) : Ev (fun k => laws_eqLinkS.f k xs ys) (decide (xs = ys)) :=
  eq_slice _ (fun k i => laws_eqLinkS.l0 k xs ys i) xs ys (fun _ => rfl)
    (fun e => eq_loop _ (fun _ a b => laws_eqLink.f a.f0 a.f1 b.f0 b.f1) xs ys z70 e hn (fun k i => laws_eqLinkS.l0.eq_2 _ _ _ _) (fun a _ b _ => eqLink_ev a b) xs.length 0 (by omega))
theorem eqCand_ev (a b : ICd) (hn : a.f0.length ≤ 4611686018427387904) : Ev (fun k => laws_eqCandidate.f k a.f0 b.f0) (decide (a = b)) := by
  unfold laws_eqCandidate.f
  refine Ev.bind (eqLinkS_ev _ _ hn) ?_
  obtain ⟨a0⟩ := a
  obtain ⟨b0⟩ := b
  by_cases c : a0 = b0
  · exact Ev.pos (decide_eq_true c) (Ev.is (decide_eq_true (by rw [c])).symm)
  · exact Ev.neg (by simpa using c) (Ev.is (decide_eq_false (fun h => c (by injection h))).symm)
theorem eqCandS_ev (xs ys : List ICd) (hn : xs.length ≤ 4611686018427387904) (hy : ∀ y ∈ xs, y.f0.length ≤ 4611686018427387904) : Ev (fun k => laws_eqCandidateS.f k xs ys) (decide (xs = ys)) :=
  eq_slice _ (fun k i => laws_eqCandidateS.l0 k xs ys i) xs ys (fun _ => rfl)
    (fun e => eq_loop _ (fun k a b => laws_eqCandidate.f k a.f0 b.f0) xs ys z50 e hn (fun k i => laws_eqCandidateS.l0.eq_2 _ _ _ _) (fun a ha b _ => eqCand_ev a b (hy a ha)) xs.length 0 (by omega))
theorem l5Same_ev (xs ys : List Int) (hn : xs.length ≤ 4611686018427387904) : Ev (fun k => spec_l5Same.f k xs ys) (decide (xs = ys)) := by
  unfold spec_l5Same.f
  by_cases e : xs.length = ys.length
  · refine Ev.pos (by omega) (all_loop (fun k i => spec_l5Same.l0 k xs ys i) xs.length (fun j => xs.getD j 0 = ys.getD j 0) true (fun i hi r h h' => ?_) (Ev.step (fun k => spec_l5Same.l0.eq_2 _ _ _ _) (Ev.neg (by omega) (Ev.now _))) xs.length 0 (by omega) _ ?_)
    · refine Ev.step (fun k => spec_l5Same.l0.eq_2 _ _ _ _) (Ev.pos (by omega) (Ev.pos (by omega) (Ev.pos (by omega) ?_)))
      rw [wrapS (Nat.le_of_lt hi) hn, rdN, rdN]
      by_cases c : xs.getD i 0 = ys.getD i 0
      · exact Ev.pos c (h c)
      · exact Ev.neg c (Ev.is (h' c).symm)
    · simpa using (list_eq_iff xs ys 0 e).symm
  · refine Ev.neg (by omega) (Ev.is (decide_eq_false (fun h => e (by rw [h]))).symm)
theorem slicesEqual_ev (xs ys : List Int) (hn : xs.length ≤ 4611686018427387904) : Ev (fun k => slices_Equal_int_int.f k xs ys) (decide (xs = ys)) := by
  unfold slices_Equal_int_int.f
  by_cases e : xs.length = ys.length
  · refine Ev.pos (by omega) (all_loop (fun k i => slices_Equal_int_int.l0 k xs ys (xs.length : Int) i) xs.length (fun j => xs.getD j 0 = ys.getD j 0) true (fun i hi r h h' => ?_) (Ev.step (fun k => slices_Equal_int_int.l0.eq_2 _ _ _ _ _) (Ev.neg (by omega) (Ev.now _))) xs.length 0 (by omega) _ ?_)
    · refine Ev.step (fun k => slices_Equal_int_int.l0.eq_2 _ _ _ _ _) (Ev.pos (by omega) (Ev.pos (by omega) (Ev.pos (by omega) (Ev.pos (by omega) ?_))))
      rw [wrapS (Nat.le_of_lt hi) hn, rdN, rdN]
      by_cases c : xs.getD i 0 = ys.getD i 0
      · exact Ev.pos c (h c)
      · exact Ev.neg c (Ev.is (h' c).symm)
    · simpa using (list_eq_iff xs ys 0 e).symm
  · refine Ev.neg (by omega) (Ev.is (decide_eq_false (fun h => e (by rw [h]))).symm)
theorem l11Same_ev (a b : List Int) (hn : a.length ≤ 4611686018427387904) : Ev (fun k => spec_l11Same.f k a b) (decide (a = b)) := by
  unfold spec_l11Same.f
  exact Ev.bind (l5Same_ev a b hn) (Ev.now _)
/-- What a tableau's rows are known to be. -/
def tabOK (names : List ByteArray) (rows : List ICd) (marks : List (List Int)) : Prop := areCons names = true ∧ 1 ≤ rows.length ∧ rows.length ≤ 250 ∧ marks.length = rows.length ∧ ∀ j, j < rows.length → candOK (rows.getD j z50).f0 = true ∧ (marks.getD j []).length = names.length
theorem isTab_ev (inp : ByteArray) (names : List ByteArray) (rows : List ICd) (marks : List (List Int)) (hi : inp.size ≤ 4611686018427387904) (hl : names.length ≤ 4611686018427387904) (hr : rows.length ≤ 1048576) (hm : marks.length ≤ 1048576) (hy : ∀ y ∈ marks, y.length ≤ 1048576) (hc : ∀ c ∈ rows, c.f0.length ≤ 1048576 ∧ okLk c.f0) :
    ∃ b : Bool, Ev (fun k => spec_IsTableau.f k inp names rows marks) b ∧ Ev (fun k => impl_IsTableau.f k inp names rows marks) b ∧ (b = true → tabOK names rows marks) := by
  unfold spec_IsTableau.f impl_IsTableau.f
  have no : ∀ {g1 g2 : Nat → Option Bool}, Ev g1 false → Ev g2 false → ∃ b : Bool, Ev g1 b ∧ Ev g2 b ∧ (b = true → tabOK names rows marks) := fun h1 h2 => ⟨false, h1, h2, fun h => by cases h⟩
  have js : Ev (fun k => spec_IsTableau.j0 k true inp names rows marks) false := Ev.step (fun k => spec_IsTableau.j0.eq_2 _ _ _ _ _ _) (Ev.pos rfl (Ev.now _))
  have ji : Ev (fun k => impl_IsTableau.j0 k true inp names rows marks) false := Ev.step (fun k => impl_IsTableau.j0.eq_2 _ _ _ _ _ _) (Ev.pos rfl (Ev.now _))
  by_cases c1 : areCons names = true
  case neg => exact no (Ev.bind (specAreConstraints_ev names hl) (Ev.neg c1 js)) (Ev.bind (implAreConstraints_ev names hl) (Ev.neg c1 ji))
  by_cases c2 : isForm inp = true
  case neg => exact no (Ev.bind (specAreConstraints_ev names hl) (Ev.pos c1 (Ev.bind (specForm_ev inp hi) (Ev.neg c2 js)))) (Ev.bind (implAreConstraints_ev names hl) (Ev.pos c1 (Ev.bind (implForm_ev inp hi) (Ev.neg c2 ji))))
  by_cases c3 : decide (1 ≤ (rows.length : Int) ∧ (rows.length : Int) ≤ 250) = true
  case neg => exact no (Ev.bind (specAreConstraints_ev names hl) (Ev.pos c1 (Ev.bind (specForm_ev inp hi) (Ev.pos c2 (Ev.bind (l1In_ev _ _ _) (Ev.neg c3 js)))))) (Ev.bind (implAreConstraints_ev names hl) (Ev.pos c1 (Ev.bind (implForm_ev inp hi) (Ev.pos c2 (Ev.bind (within_ev _ _ _) (Ev.neg c3 ji))))))
  have rng := of_decide_eq_true c3
  suffices h : ∃ b : Bool, Ev (fun k => spec_IsTableau.j0 k ((marks.length : Int) != (rows.length : Int)) inp names rows marks) b ∧ Ev (fun k => impl_IsTableau.j0 k ((marks.length : Int) != (rows.length : Int)) inp names rows marks) b ∧ (b = true → tabOK names rows marks) by
    obtain ⟨b, h1, h2, h3⟩ := h
    exact ⟨b, Ev.bind (specAreConstraints_ev names hl) (Ev.pos c1 (Ev.bind (specForm_ev inp hi) (Ev.pos c2 (Ev.bind (l1In_ev _ _ _) (Ev.pos c3 h1))))), Ev.bind (implAreConstraints_ev names hl) (Ev.pos c1 (Ev.bind (implForm_ev inp hi) (Ev.pos c2 (Ev.bind (within_ev _ _ _) (Ev.pos c3 h2))))), h3⟩
  by_cases c4 : marks.length = rows.length
  case neg =>
    have e : ((marks.length : Int) != (rows.length : Int)) = true := by
      rw [bne_iff_ne]; omega
    rw [e]
    exact no js ji
  have e : ((marks.length : Int) != (rows.length : Int)) = false := by
    rw [bne_eq_false_iff_eq]; omega
  rw [e]
  have key : ∀ (d i : Nat), i + d = rows.length → (∀ j, j < i → candOK (rows.getD j z50).f0 = true ∧ (marks.getD j []).length = names.length) → ∃ b : Bool, Ev (fun k => spec_IsTableau.l0 k (i : Int) inp names rows marks) b ∧ Ev (fun k => impl_IsTableau.l0 k rows (rows.length : Int) (i : Int) inp names rows marks) b ∧ (b = true → tabOK names rows marks) := by
    intro d
    induction d with
    | zero =>
      intro i hi' hp
      exact ⟨true, Ev.step (fun k => spec_IsTableau.l0.eq_2 _ _ _ _ _ _) (Ev.neg (by omega) (Ev.now _)), Ev.step (fun k => impl_IsTableau.l0.eq_2 _ _ _ _ _ _ _ _) (Ev.neg (by omega) (Ev.now _)), fun _ => ⟨c1, by omega, by omega, c4, fun j hj => hp j (by omega)⟩⟩
    | succ d ih =>
      intro i hi' hp
      have hlt : i < rows.length := by omega
      obtain ⟨hn, hb⟩ := hc _ (mem_getD rows z50 i hlt)
      have hmi := hy _ (mem_getD marks [] i (by omega))
      have wi : wrap64 ((i : Int) + 1) = ((i + 1 : Nat) : Int) := wrapS (n := i) (Nat.le_refl _) (by omega)
      have s0 : ∀ {b : Bool}, Ev (fun k => (spec_InputOf.f k (rows.getD i z50).f0).bind fun t => (if t.toList = inp.toList then ((spec_IsCandidate.f k (rows.getD i z50).f0).bind fun t => (if t = true then (if (i : Int) < (marks.length : Int) then ((spec_ProfileOf.f k names (rows.getD i z50).f0).bind fun t => ((spec_l11Same.f k (marks.getD i []) t).bind fun t => (if t = true then (spec_IsTableau.l0 k ((i + 1 : Nat) : Int) inp names rows marks) else (some false)))) else (none)) else (some false))) else (some false))) b → Ev (fun k => spec_IsTableau.l0 k (i : Int) inp names rows marks) b := fun h => by
        refine Ev.step (fun k => spec_IsTableau.l0.eq_2 _ _ _ _ _ _) (Ev.pos (by omega) (Ev.pos (by omega) ?_))
        rw [wi]
        exact h
      have i0 : ∀ {b : Bool}, Ev (fun k => (impl_IsCandidate.f k (rows.getD i z50).f0).bind fun t => (if t = true then ((impl_InputOf.f k (rows.getD i z50).f0).bind fun t => (if t.toList = inp.toList then (if (i : Int) < (marks.length : Int) then ((impl_ProfileOf.f k names (rows.getD i z50).f0).bind fun t => ((slices_Equal_int_int.f k (marks.getD i []) t).bind fun t => (if t = true then (impl_IsTableau.l0 k rows (rows.length : Int) ((i + 1 : Nat) : Int) inp names rows marks) else (some false)))) else (none)) else (some false))) else (some false))) b → Ev (fun k => impl_IsTableau.l0 k rows (rows.length : Int) (i : Int) inp names rows marks) b := fun h => by
        refine Ev.step (fun k => impl_IsTableau.l0.eq_2 _ _ _ _ _ _ _ _) (Ev.pos (by omega) (Ev.pos (by omega) (Ev.pos (by omega) ?_)))
        rw [wi]
        exact h
      have q1 := specInputOf_ev _ hn hb
      have q2 := implInputOf_ev _ hn hb
      have q3 := specIsCandidate_ev _ hn hb
      have q4 := implIsCandidate_ev _ hn hb
      obtain ⟨pr, q5, q6, q7, q8⟩ := prof_ev names _ hl hn hb
      obtain ⟨xs, hx⟩ : ∃ xs, xs = (rows.getD i z50).f0 := ⟨_, rfl⟩
      rw [← hx] at hn hb s0 i0 q1 q2 q3 q4 q5 q6 q8
      by_cases d1 : candOK xs = true
      case neg =>
        rw [if_neg d1] at q1
        refine no (s0 (Ev.bind q1 ?_)) (i0 (Ev.bind q4 (Ev.neg d1 (Ev.now _))))
        by_cases z : (⟨#[]⟩ : ByteArray).toList = inp.toList
        · exact Ev.pos z (Ev.bind q3 (Ev.neg d1 (Ev.now _)))
        · exact Ev.neg z (Ev.now _)
      rw [if_pos d1] at q1 q2
      by_cases d2 : (strOfNums (snds false xs)).toList = inp.toList
      case neg => exact no (s0 (Ev.bind q1 (Ev.neg d2 (Ev.now _)))) (i0 (Ev.bind q4 (Ev.pos d1 (Ev.bind q2 (Ev.neg d2 (Ev.now _))))))
      by_cases d3 : marks.getD i [] = pr
      case neg => exact no (s0 (Ev.bind q1 (Ev.pos d2 (Ev.bind q3 (Ev.pos d1 (Ev.pos (by omega) (Ev.bind q5 (Ev.bind (l11Same_ev _ _ (by omega)) (Ev.neg (by simpa using d3) (Ev.now _)))))))))) (i0 (Ev.bind q4 (Ev.pos d1 (Ev.bind q2 (Ev.pos d2 (Ev.pos (by omega) (Ev.bind q6 (Ev.bind (slicesEqual_ev _ _ (by omega)) (Ev.neg (by simpa using d3) (Ev.now _))))))))))
      obtain ⟨b, b1, b2, b3⟩ := ih (i + 1) (by omega) (fun j hj => by
        rcases Nat.lt_or_eq_of_le (Nat.le_of_lt_succ hj) with hj | rfl
        · exact hp j hj
        · exact ⟨by rw [← hx]; exact d1, by rw [d3]; exact q8 c1 d1⟩)
      exact ⟨b, s0 (Ev.bind q1 (Ev.pos d2 (Ev.bind q3 (Ev.pos d1 (Ev.pos (by omega) (Ev.bind q5 (Ev.bind (l11Same_ev _ _ (by omega)) (Ev.pos (by simpa using d3) b1)))))))), i0 (Ev.bind q4 (Ev.pos d1 (Ev.bind q2 (Ev.pos d2 (Ev.pos (by omega) (Ev.bind q6 (Ev.bind (slicesEqual_ev _ _ (by omega)) (Ev.pos (by simpa using d3) b2)))))))), b3⟩
  obtain ⟨b, b1, b2, b3⟩ := key rows.length 0 (by omega) (fun j hj => absurd hj (by omega))
  exact ⟨b, Ev.step (fun k => spec_IsTableau.j0.eq_2 _ _ _ _ _ _) (Ev.neg (by simp) b1), Ev.step (fun k => impl_IsTableau.j0.eq_2 _ _ _ _ _ _) (Ev.neg (by simp) b2), b3⟩
def dTo (a b : List Int) (j : Nat) : List Int := (List.range j).map fun c => wrap64 (a.getD c 0 - b.getD c 0)
def zTo (a b : List Int) (j : Nat) : Bool := (List.range j).all fun c => wrap64 (a.getD c 0 - b.getD c 0) == 0
theorem dTo_succ (a b : List Int) (j : Nat) : dTo a b (j + 1) = dTo a b j ++ [wrap64 (a.getD j 0 - b.getD j 0)] := by
  unfold dTo
  rw [List.range_succ, List.map_append]; rfl
theorem dTo_length (a b : List Int) (j : Nat) : (dTo a b j).length = j := by simp [dTo]
theorem zTo_succ (a b : List Int) (j : Nat) : zTo a b (j + 1) = (zTo a b j && (wrap64 (a.getD j 0 - b.getD j 0) == 0)) := by
  unfold zTo
  rw [List.range_succ, List.all_append]
  simp
theorem zTo_eq (a b : List Int) (n : Nat) (ha : a.length = n) (hb : b.length = n) (va : ∀ x ∈ a, -9223372036854775808 ≤ x ∧ x ≤ 9223372036854775807) (vb : ∀ x ∈ b, -9223372036854775808 ≤ x ∧ x ≤ 9223372036854775807) : zTo a b n = decide (a = b) := by
  rw [Bool.eq_iff_iff, decide_eq_true_eq]
  unfold zTo
  rw [List.all_eq_true]
  rw [← list_eq_iff a b 0 (by omega)]
  constructor
  · intro h j _ hj
    have := h j (List.mem_range.2 (by omega))
    rw [beq_iff_eq] at this
    have r1 := va _ (mem_getD a 0 j (by omega))
    have r2 := vb _ (mem_getD b 0 j (by omega))
    unfold wrap64 at this
    omega
  · intro h c hc
    have := h c (Nat.zero_le _) (by have := List.mem_range.1 hc; omega)
    rw [this, beq_iff_eq]
    unfold wrap64
    omega
theorem idxRow_loop (xs : List (List Int)) (d : List Int) (hn : xs.length ≤ 4611686018427387904) (hy : ∀ y ∈ xs, y.length ≤ 4611686018427387904) : ∀ (e i : Nat), i + e = xs.length → ∃ r, Ev (fun k => v_slices_IndexFunc__DifferencesFor_1.l0 k xs [d] (xs.length : Int) (i : Int)) r ∧ (0 ≤ r ↔ d ∈ xs.drop i) := by
  intro e
  induction e with
  | zero =>
    intro i hi
    refine ⟨-1, Ev.step (fun k => v_slices_IndexFunc__DifferencesFor_1.l0.eq_2 _ _ _ _ _) (Ev.neg (by omega) (Ev.now _)), ?_⟩
    rw [List.drop_of_length_le (by omega)]
    simp
  | succ e ih =>
    intro i hi
    have hlt : i < xs.length := by omega
    have hf : Ev (fun k => impl_DifferencesFor_1.f k (xs.getD i []) [d]) (decide (xs.getD i [] = d)) := by
      unfold impl_DifferencesFor_1.f
      exact Ev.pos (by simp) (Ev.bind (slicesEqual_ev _ _ (hy _ (mem_getD xs [] i hlt))) (Ev.now _))
    rw [drop_cons xs [] i hlt]
    by_cases c : xs.getD i [] = d
    · exact ⟨(i : Int), Ev.step (fun k => v_slices_IndexFunc__DifferencesFor_1.l0.eq_2 _ _ _ _ _) (Ev.pos (by omega) (Ev.pos (by omega) (Ev.pos (by omega) (Ev.bind hf (Ev.pos (decide_eq_true c) (Ev.now _)))))), ⟨fun _ => by rw [c]; exact List.mem_cons_self .., fun _ => by omega⟩⟩
    · obtain ⟨r, hr, h⟩ := ih (i + 1) (by omega)
      refine ⟨r, Ev.step (fun k => v_slices_IndexFunc__DifferencesFor_1.l0.eq_2 _ _ _ _ _) (Ev.pos (by omega) (Ev.pos (by omega) (Ev.pos (by omega) (Ev.bind hf (Ev.neg (by simpa using c) ?_))))), h.trans ⟨fun z => List.mem_cons_of_mem _ z, fun z => ?_⟩⟩
      · rw [wrapS (Nat.le_of_lt hlt) hn]; exact hr
      · rcases List.mem_cons.1 z with z | z
        · exact absurd z.symm c
        · exact z
theorem hasRow_ev (xs : List (List Int)) (d : List Int) (hn : xs.length ≤ 4611686018427387904) (hy : ∀ y ∈ xs, y.length ≤ 4611686018427387904) : Ev (fun k => v_slices_ContainsFunc__DifferencesFor_1.f k xs [d]) (decide (d ∈ xs)) := by
  obtain ⟨r, hr, h⟩ := idxRow_loop xs d hn hy xs.length 0 (by omega)
  rw [List.drop_zero] at h
  unfold v_slices_ContainsFunc__DifferencesFor_1.f v_slices_IndexFunc__DifferencesFor_1.f
  exact Ev.bind hr (Ev.is (decide_eq_decide.2 h))
theorem mem_dec (D x : List Int) (l : List (List Int)) : decide (D ∈ x :: l) = (decide (x = D) || decide (D ∈ l)) := by
  rw [Bool.eq_iff_iff, Bool.or_eq_true, decide_eq_true_eq, decide_eq_true_eq, decide_eq_true_eq, List.mem_cons]
  exact ⟨fun h => h.imp Eq.symm id, fun h => h.imp Eq.symm id⟩
theorem df_found (inp : ByteArray) (names : List ByteArray) (rows : List ICd) (marks : List (List Int)) (w : Int) (out : List (List Int)) (i : Nat) (D : List Int) (res : List (List Int)) (ho : out.length ≤ 1048576) (hy : ∀ y ∈ out, y.length ≤ 5) : ∀ (d j : Nat) (f : Bool), j + d = out.length →
    ((f || decide (D ∈ out.drop j)) = true → Ev (fun k => spec_DifferencesFor.l0 k w out (wrap64 ((i : Int) + 1)) inp names rows marks) res) → ((f || decide (D ∈ out.drop j)) = false → Ev (fun k => spec_DifferencesFor.l0 k w (out ++ [D]) (wrap64 ((i : Int) + 1)) inp names rows marks) res) →
    Ev (fun k => spec_DifferencesFor.l2 k w out (i : Int) D f (j : Int) inp names rows marks) res := by
  intro d
  induction d with
  | zero =>
    intro j f hj h1 h2
    have e : (f || decide (D ∈ out.drop j)) = f := by rw [List.drop_of_length_le (by omega)]; simp
    rw [e] at h1 h2
    refine Ev.step (fun k => spec_DifferencesFor.l2.eq_2 _ _ _ _ _ _ _ _ _ _ _) (Ev.neg (by omega) ?_)
    cases f with
    | true => exact Ev.pos rfl (h1 rfl)
    | false => exact Ev.neg (by simp) (Ev.pos (by omega) (h2 rfl))
  | succ d ih =>
    intro j f hj h1 h2
    have hlt : j < out.length := by omega
    have e : decide (D ∈ out.drop j) = (decide (out.getD j [] = D) || decide (D ∈ out.drop (j + 1))) := by rw [drop_cons out [] j hlt, mem_dec]
    rw [e] at h1 h2
    refine Ev.step (fun k => spec_DifferencesFor.l2.eq_2 _ _ _ _ _ _ _ _ _ _ _) (Ev.pos (by omega) ?_)
    rw [wrapS (n := j) (Nat.le_refl _) (by omega)]
    cases f with
    | true => exact Ev.pos rfl (ih (j + 1) true (by omega) (fun _ => h1 (by simp)) (fun h => by simp at h))
    | false =>
      refine Ev.neg (by simp) (Ev.pos (by omega) ?_)
      rw [show rd_L6 out (j : Int) = out.getD j [] from rfl]
      refine Ev.bind (l5Same_ev _ _ (by have := hy _ (mem_getD out [] j hlt); omega)) (ih (j + 1) _ (by omega) ?_ ?_)
      · exact fun h => h1 (by rw [Bool.false_or]; exact h)
      · exact fun h => h2 (by rw [Bool.false_or]; exact h)
theorem df_srow (inp : ByteArray) (names : List ByteArray) (rows : List ICd) (marks : List (List Int)) (w : Nat) (out : List (List Int)) (i : Nat) (a b : List Int) (res : List (List Int)) (h5 : names.length ≤ 5) (hal : a.length = names.length) (hbl : b.length = names.length) (hi : i < marks.length) (hw : w < marks.length)
    (ra : rd_L6 marks (i : Int) = a) (rb : rd_L6 marks (w : Int) = b) (h : Ev (fun k => spec_DifferencesFor.l2 k (w : Int) out (i : Int) (dTo a b names.length) (decide (a = b)) 0 inp names rows marks) res) : ∀ (e j : Nat), j + e = names.length → Ev (fun k => spec_DifferencesFor.l1 k (w : Int) out (i : Int) (dTo a b j) (j : Int) inp names rows marks) res := by
  intro e
  induction e with
  | zero =>
    intro j hj
    obtain rfl : j = names.length := by omega
    refine Ev.step (fun k => spec_DifferencesFor.l1.eq_2 _ _ _ _ _ _ _ _ _ _) (Ev.neg (by omega) (Ev.pos (by omega) (Ev.pos (by omega) (Ev.pos (by omega) (Ev.pos (by omega) ?_)))))
    rw [ra, rb]
    exact Ev.bind (l5Same_ev _ _ (by omega)) h
  | succ e ih =>
    intro j hj
    refine Ev.step (fun k => spec_DifferencesFor.l1.eq_2 _ _ _ _ _ _ _ _ _ _) (Ev.pos (by omega) (Ev.pos (by omega) (Ev.pos (by omega) (Ev.pos (by omega) ?_))))
    rw [ra, rb]
    refine Ev.pos (by omega) (Ev.pos (by omega) (Ev.pos (by omega) (Ev.pos (by omega) (Ev.pos (by rw [dTo_length]; omega) ?_))))
    rw [wrapS (n := j) (Nat.le_refl _) (by omega), rdN, rdN, ← dTo_succ]
    exact ih (j + 1) (by omega)
theorem df_irow (inp : ByteArray) (names : List ByteArray) (rows : List ICd) (marks : List (List Int)) (w : Nat) (out : List (List Int)) (i : Nat) (a b : List Int) (res : List (List Int)) (h5 : names.length ≤ 5) (hal : a.length = names.length) (hbl : b.length = names.length) (hi : i < marks.length) (hw : w < marks.length)
    (rb : rd_L6 marks (w : Int) = b) (ze : zTo a b names.length = decide (a = b)) (h : Ev (fun k => impl_DifferencesFor.l1 k (w : Int) out (decide (a = b)) marks (marks.length : Int) (i : Int) a (a.length : Int) (names.length : Int) inp names rows marks (dTo a b names.length)) res) : ∀ (e j : Nat), j + e = names.length → Ev (fun k => impl_DifferencesFor.l1 k (w : Int) out (zTo a b j) marks (marks.length : Int) (i : Int) a (a.length : Int) (j : Int) inp names rows marks (dTo a b j)) res := by
  intro e
  induction e with
  | zero =>
    intro j hj
    obtain rfl : j = names.length := by omega
    rw [ze]
    exact h
  | succ e ih =>
    intro j hj
    refine Ev.step (fun k => impl_DifferencesFor.l1.eq_2 _ _ _ _ _ _ _ _ _ _ _ _ _ _ _) (Ev.pos (by omega) (Ev.pos (by omega) (Ev.pos (by omega) (Ev.pos (by omega) (Ev.pos (by omega) ?_)))))
    rw [rb]
    refine Ev.pos (by omega) (Ev.pos (by rw [dTo_length]; omega) (Ev.bind (Ev.now _) ?_))
    rw [wrapS (n := j) (Nat.le_refl _) (by omega), rdN, rdN, ← dTo_succ]
    have hn := ih (j + 1) (by omega)
    rw [zTo_succ] at hn
    have hrd : rd (dTo a b (j + 1)) (j : Int) = wrap64 (a.getD j 0 - b.getD j 0) := by
      rw [rdN, dTo_succ, List.getD_eq_getElem?_getD, List.getElem?_append_right (by rw [dTo_length]; omega), dTo_length, Nat.sub_self]; rfl
    by_cases z : zTo a b j = true
    · rw [z, Bool.true_and] at hn
      refine Ev.pos z (Ev.pos (by rw [dTo_length]; omega) ?_)
      rw [hrd]; exact hn
    · rw [Bool.eq_false_iff.2 z, Bool.false_and] at hn
      exact Ev.neg z hn
theorem df_key (inp : ByteArray) (names : List ByteArray) (rows : List ICd) (marks : List (List Int)) (w : Nat) (h5 : names.length ≤ 5) (hrm : rows.length ≤ marks.length) (hmr : marks.length ≤ rows.length) (h250 : rows.length ≤ 250) (hw : w < rows.length)
    (hl : ∀ i, i < rows.length → (marks.getD i []).length = names.length) (hv : ∀ y ∈ marks, ∀ x ∈ y, -9223372036854775808 ≤ x ∧ x ≤ 9223372036854775807) : ∀ (d i : Nat) (out : List (List Int)), i + d = rows.length → out.length ≤ i → (∀ y ∈ out, y.length ≤ 5) →
    ∃ r, Ev (fun k => spec_DifferencesFor.l0 k (w : Int) out (i : Int) inp names rows marks) r ∧ Ev (fun k => impl_DifferencesFor.l0 k (w : Int) out marks (marks.length : Int) (i : Int) inp names rows marks) r ∧ r.length ≤ 250 ∧ ∀ y ∈ r, y.length ≤ 5 := by
  have hbl := hl w hw
  have hbm : marks.getD w [] ∈ marks := mem_getD marks [] w (by omega)
  have rb : rd_L6 marks (w : Int) = marks.getD w [] := rfl
  generalize marks.getD w [] = b at *
  intro d
  induction d with
  | zero =>
    intro i out hi ho hz
    exact ⟨out, Ev.step (fun k => spec_DifferencesFor.l0.eq_2 _ _ _ _ _ _ _ _) (Ev.neg (by omega) (Ev.now _)), Ev.step (fun k => impl_DifferencesFor.l0.eq_2 _ _ _ _ _ _ _ _ _ _) (Ev.neg (by omega) (Ev.now _)), by omega, hz⟩
  | succ d ih =>
    intro i out hi ho hz
    have hlt : i < rows.length := by omega
    have wi : wrap64 ((i : Int) + 1) = ((i + 1 : Nat) : Int) := wrapS (n := i) (Nat.le_refl _) (by omega)
    have hal := hl i hlt
    have ham : marks.getD i [] ∈ marks := mem_getD marks [] i (by omega)
    have ra : rd_L6 marks (i : Int) = marks.getD i [] := rfl
    generalize marks.getD i [] = a at *
    have ze := zTo_eq a b names.length hal hbl (hv a ham) (hv b hbm)
    have hD := dTo_length a b names.length
    have sR := fun (res : List (List Int)) h => df_srow inp names rows marks w out i a b res h5 hal hbl (by omega) (by omega) ra rb h names.length 0 (by omega)
    have iR := fun (res : List (List Int)) h => df_irow inp names rows marks w out i a b res h5 hal hbl (by omega) (by omega) rb ze h names.length 0 (by omega)
    have sF := fun (res : List (List Int)) f => df_found inp names rows marks (w : Int) out i (dTo a b names.length) res (by omega) hz out.length 0 f (by omega)
    rw [List.drop_zero] at sF
    rw [wi] at sF
    have s0 : ∀ res, Ev (fun k => spec_DifferencesFor.l2 k (w : Int) out (i : Int) (dTo a b names.length) (decide (a = b)) 0 inp names rows marks) res → Ev (fun k => spec_DifferencesFor.l0 k (w : Int) out (i : Int) inp names rows marks) res := fun res h => Ev.step (fun k => spec_DifferencesFor.l0.eq_2 _ _ _ _ _ _ _ _) (Ev.pos (by omega) (sR res h))
    have i0 : ∀ res, Ev (fun k => impl_DifferencesFor.l1 k (w : Int) out (decide (a = b)) marks (marks.length : Int) (i : Int) a (a.length : Int) (names.length : Int) inp names rows marks (dTo a b names.length)) res → Ev (fun k => impl_DifferencesFor.l0 k (w : Int) out marks (marks.length : Int) (i : Int) inp names rows marks) res := fun res h => by
      refine Ev.step (fun k => impl_DifferencesFor.l0.eq_2 _ _ _ _ _ _ _ _ _ _) (Ev.pos (by omega) (Ev.pos (by omega) (Ev.pos (by omega) ?_)))
      rw [ra]
      exact iR res h
    have hcont := hasRow_ev out (dTo a b names.length) (by omega) (fun y h => by have := hz y h; omega)
    generalize dTo a b names.length = D at *
    by_cases z : a = b
    · obtain ⟨r, p1, p2, p3⟩ := ih (i + 1) out (by omega) (by omega) hz
      refine ⟨r, s0 r (sF r _ (fun _ => p1) (fun h => by rw [decide_eq_true z, Bool.true_or] at h; exact absurd h (by decide))), i0 r (Ev.step (fun k => impl_DifferencesFor.l1.eq_2 _ _ _ _ _ _ _ _ _ _ _ _ _ _ _) (Ev.neg (by omega) (Ev.pos (decide_eq_true z) ?_))), p3⟩
      rw [wi]; exact p2
    · have zf : decide (a = b) = false := decide_eq_false z
      rw [zf] at s0 i0
      by_cases q : D ∈ out
      · obtain ⟨r, p1, p2, p3⟩ := ih (i + 1) out (by omega) (by omega) hz
        refine ⟨r, s0 r (sF r _ (fun _ => p1) (fun h => by rw [decide_eq_true q, Bool.or_true] at h; exact absurd h (by decide))), i0 r (Ev.step (fun k => impl_DifferencesFor.l1.eq_2 _ _ _ _ _ _ _ _ _ _ _ _ _ _ _) (Ev.neg (by omega) (Ev.neg (by simp) (Ev.bind hcont (Ev.pos (decide_eq_true q) ?_))))), p3⟩
        rw [wi]; exact p2
      · obtain ⟨r, p1, p2, p3⟩ := ih (i + 1) (out ++ [D]) (by omega) (by rw [List.length_append, List.length_singleton]; omega) (fun y h => by
          rcases List.mem_append.1 h with h | h
          · exact hz y h
          · rw [List.mem_singleton.1 h]; omega)
        refine ⟨r, s0 r (sF r _ (fun h => by rw [decide_eq_false q, Bool.or_false] at h; exact absurd h (by decide)) (fun _ => p1)), i0 r (Ev.step (fun k => impl_DifferencesFor.l1.eq_2 _ _ _ _ _ _ _ _ _ _ _ _ _ _ _) (Ev.neg (by omega) (Ev.neg (by simp) (Ev.bind hcont (Ev.neg (by simpa using q) (Ev.pos (by omega) ?_)))))), p3⟩
        rw [wi]; exact p2
set_option maxHeartbeats 1000000 in
theorem diffs_ev (inp : ByteArray) (names : List ByteArray) (rows : List ICd) (marks : List (List Int)) (w : Int) (hi : inp.size ≤ 4611686018427387904) (hl : names.length ≤ 4611686018427387904) (hr : rows.length ≤ 1048576) (hm : marks.length ≤ 1048576) (hy : ∀ y ∈ marks, y.length ≤ 1048576) (hv : ∀ y ∈ marks, ∀ x ∈ y, -9223372036854775808 ≤ x ∧ x ≤ 9223372036854775807) (hc : ∀ c ∈ rows, c.f0.length ≤ 1048576 ∧ okLk c.f0) :
    ∃ r, Ev (fun k => spec_DifferencesFor.f k inp names rows marks w) r ∧ Ev (fun k => impl_DifferencesFor.f k inp names rows marks w) r ∧ r.length ≤ 250 ∧ ∀ y ∈ r, y.length ≤ 5 := by
  obtain ⟨b, t1, t2, t3⟩ := isTab_ev inp names rows marks hi hl hr hm hy hc
  unfold spec_DifferencesFor.f impl_DifferencesFor.f impl_isRowOf.f
  have js : Ev (fun k => spec_DifferencesFor.j0 k w [] true inp names rows marks) [] := Ev.step (fun k => spec_DifferencesFor.j0.eq_2 _ _ _ _ _ _ _ _) (Ev.pos rfl (Ev.now _))
  have hw1 : wrap64 ((rows.length : Int) - 1) = (rows.length : Int) - 1 := wrapI _ (by omega)
  rw [hw1]
  cases b with
  | false =>
    refine ⟨[], Ev.bind (Ev.now _) (Ev.bind t1 (Ev.neg (by simp) js)), Ev.bind (a := false) ?_ (Ev.neg (by simp) (Ev.now _)), by simp, by simp⟩
    refine Ev.bind (within_ev _ _ _) ?_
    by_cases c : decide (0 ≤ w ∧ w ≤ (rows.length : Int) - 1) = true
    · exact Ev.pos c (Ev.bind t2 (Ev.now _))
    · exact Ev.neg c (Ev.now _)
  | true =>
    obtain ⟨c1, r1, r2, r3, r4⟩ := t3 rfl
    have h5 : names.length ≤ 5 := by
      unfold areCons at c1
      have := of_decide_eq_true c1
      omega
    by_cases c2 : 0 ≤ w ∧ w ≤ (rows.length : Int) - 1
    case neg =>
      refine ⟨[], Ev.bind (Ev.now _) (Ev.bind t1 (Ev.pos rfl ?_)), Ev.bind (Ev.bind (within_ev _ _ _) (Ev.neg (by simpa using c2) (Ev.now _))) (Ev.neg (by simp) (Ev.now _)), by simp, by simp⟩
      by_cases z : w < 0
      · exact Ev.pos z js
      · refine Ev.neg z ?_
        rw [decide_eq_true (by omega)]
        exact js
    obtain ⟨wn, rfl⟩ : ∃ wn : Nat, w = (wn : Int) := ⟨w.toNat, by omega⟩
    obtain ⟨r, p1, p2, p3⟩ := df_key inp names rows marks wn h5 (by omega) (by omega) (by omega) (by omega) (fun i h => (r4 i h).2) hv rows.length 0 [] (by omega) (by simp) (by simp)
    refine ⟨r, Ev.bind (Ev.now _) (Ev.bind t1 (Ev.pos rfl (Ev.neg (by omega) ?_))), Ev.bind (Ev.bind (within_ev _ _ _) (Ev.pos (decide_eq_true c2) (Ev.bind t2 (Ev.now _)))) (Ev.pos rfl p2), p3⟩
    rw [decide_eq_false (by omega)]
    exact Ev.step (fun k => spec_DifferencesFor.j0.eq_2 _ _ _ _ _ _ _ _) (Ev.neg (by simp) p1)
theorem szStringS_loop (xs : List ByteArray) (hn : xs.length ≤ 4611686018427387904) (hy : ∀ y ∈ xs, y.size ≤ maxLen) : ∀ (d i : Nat) (left : Int), i + d = xs.length → 0 ≤ left → left ≤ 1048576 →
    ∃ r, Ev (fun k => laws_szStringS.l0 k xs left (i : Int)) r ∧ -1 ≤ r ∧ r ≤ left ∧ (0 ≤ r → ∀ y ∈ xs.drop i, y.size ≤ 1048576) := by
  intro d
  induction d with
  | zero =>
    intro i left hi h0 h1
    refine ⟨left, Ev.step (fun k => laws_szStringS.l0.eq_2 _ _ _ _) (Ev.neg (by omega) (Ev.now _)), by omega, by omega, fun _ y hm => ?_⟩
    rw [List.drop_of_length_le (by omega)] at hm
    cases hm
  | succ d ih =>
    intro i left hi h0 h1
    have hlt : i < xs.length := by omega
    have hs := hy _ (mem_getD xs ByteArray.empty i hlt)
    unfold maxLen at hs
    have e : rdOf ByteArray.empty xs (i : Int) = xs.getD i ByteArray.empty := rfl
    by_cases c : left - ((xs.getD i ByteArray.empty).size : Int) < 0
    · exact ⟨-1, Ev.step (fun k => laws_szStringS.l0.eq_2 _ _ _ _) (Ev.pos (by omega) (Ev.pos (by omega) (Ev.pos (by rw [e, wrapI _ (by omega)]; exact c) (Ev.now _)))), by omega, by omega, fun h => by omega⟩
    · obtain ⟨r, hr, hr1, hr2, hr3⟩ := ih (i + 1) (left - ((xs.getD i ByteArray.empty).size : Int)) (by omega) (by omega) (by omega)
      refine ⟨r, Ev.step (fun k => laws_szStringS.l0.eq_2 _ _ _ _) (Ev.pos (by omega) (Ev.pos (by omega) (Ev.neg (by rw [e, wrapI _ (by omega)]; exact c) ?_))), hr1, by omega, fun h y hm => ?_⟩
      · rw [e, wrapI _ (by omega), wrapS (Nat.le_of_lt hlt) hn]; exact hr
      · rw [drop_cons xs ByteArray.empty i hlt] at hm
        rcases List.mem_cons.1 hm with rfl | hm
        · omega
        · exact hr3 h y hm
theorem szStringS_ev (xs : List ByteArray) (hn : xs.length ≤ maxLen) (hy : ∀ y ∈ xs, y.size ≤ maxLen) (a : Int) (h0 : 0 ≤ a) (h1 : a ≤ 1048576) :
    ∃ r, Ev (fun k => laws_szStringS.f k xs a) r ∧ -1 ≤ r ∧ r ≤ a ∧ (0 ≤ r → xs.length ≤ 1048576 ∧ ∀ y ∈ xs, y.size ≤ 1048576) :=
  sz_slice (fun k a => laws_szStringS.f k xs a) (fun k left i => laws_szStringS.l0 k xs left i) xs (fun y => y.size ≤ 1048576) hn (fun _ _ => rfl)
    (fun hl left h0 h1 => szStringS_loop xs hl hy xs.length 0 left (by omega) h0 h1) a h0 h1
theorem toStringS_ev (xs : List ByteArray) (hn : xs.length ≤ 1048576) : Ev (fun k => laws_toStringS.f k xs) xs := by
  unfold laws_toStringS.f
  refine Ev.pos (by omega) (Ev.pos (by omega) ?_)
  have h := to_loop (fun k ys i => laws_toStringS.l0 k xs ys i) (fun _ y => some y) (fun t => t) (fun y => y) xs ByteArray.empty (by omega) (fun k ys i => laws_toStringS.l0.eq_2 _ _ _ _)
    (fun y _ => Ev.now _) xs.length 0 (List.replicate xs.length (⟨#[]⟩ : ByteArray)) (by omega) (by rw [List.length_replicate]) rfl
  rw [List.map_id'] at h
  rw [Int.toNat_natCast]
  exact h
theorem eqStringS_ev (xs ys : List ByteArray) (hn : xs.length ≤ 4611686018427387904) : Ev (fun k => laws_eqStringS.f k xs ys) (decide (xs = ys)) :=
  eq_slice _ (fun k i => laws_eqStringS.l0 k xs ys i) xs ys (fun _ => rfl)
    (fun e => eq_loop _ (fun _ a b => some (decide (a = b))) xs ys ByteArray.empty e hn (fun k i => by rw [laws_eqStringS.l0.eq_2]; simp only [Option.bind_some, decide_eq_true_eq, ba_ext]; rfl) (fun a _ b _ => Ev.now _) xs.length 0 (by omega))
theorem szIntS_ev (l : List Int) (hl : l.length ≤ maxLen) (a : Int) (h0 : 0 ≤ a) (h1 : a ≤ 1048576) : ∃ r, Ev (fun _ => laws_szIntS.f l a) r ∧ -1 ≤ r ∧ r ≤ a ∧ (0 ≤ r → l.length ≤ 1048576) := by
  obtain ⟨r, hr, h⟩ := sz_leaf a l.length hl h0 h1
  exact ⟨r, Ev.flat hr, h⟩
theorem szIntSS_ev (xs : List (List Int)) (hn : xs.length ≤ maxLen) (hy : ∀ y ∈ xs, y.length ≤ maxLen) (a : Int) (h0 : 0 ≤ a) (h1 : a ≤ 1048576) :
    ∃ r, Ev (fun k => laws_szIntSS.f k xs a) r ∧ -1 ≤ r ∧ r ≤ a ∧ (0 ≤ r → xs.length ≤ 1048576 ∧ ∀ y ∈ xs, y.length ≤ 1048576) :=
  sz_slice (fun k a => laws_szIntSS.f k xs a) (fun k left i => laws_szIntSS.l0 k xs left i) xs (fun y => y.length ≤ 1048576) hn (fun _ _ => rfl)
    (fun hl left h0 h1 => sz_loop _ (fun _ y left => laws_szIntS.f y left) xs [] _ hl (fun k left i => laws_szIntSS.l0.eq_2 _ _ _ _) (fun y hm left h0 h1 => szIntS_ev y (hy y hm) left h0 h1) xs.length 0 left (by omega) h0 h1) a h0 h1
theorem toIntS_loop (xs : List Int) (hn : xs.length ≤ 4611686018427387904) : ∀ (d i : Nat) (ys : List Int), i + d = xs.length → ys.length = xs.length → ys.take i = xs.take i →
    Ev (fun k => laws_toIntS.l0 k xs ys (i : Int)) xs := by
  intro d
  induction d with
  | zero =>
    intro i ys hi hl ht
    refine Ev.step (fun k => laws_toIntS.l0.eq_2 _ _ _ _) ?_
    refine Ev.neg (by omega) (Ev.is ?_)
    have e : i = xs.length := by omega
    rw [e, List.take_length, ← hl, List.take_length] at ht
    exact ht
  | succ d ih =>
    intro i ys hi hl ht
    have hlt : i < xs.length := by omega
    obtain ⟨h1, h2⟩ := set_fill xs ys 0 i hlt hl ht
    refine Ev.step (fun k => laws_toIntS.l0.eq_2 _ _ _ _) ?_
    refine Ev.pos (by omega) (Ev.pos (by omega) (Ev.pos (by omega) ?_))
    rw [wrapS (Nat.le_of_lt hlt) hn, rdN, Int.toNat_natCast]
    exact ih (i + 1) _ (by omega) h1 h2
theorem toIntS_ev (xs : List Int) (hn : xs.length ≤ 35184372088832) : Ev (fun k => laws_toIntS.f k xs) xs := by
  unfold laws_toIntS.f
  refine Ev.pos (by omega) (Ev.pos (by omega) ?_)
  rw [Int.toNat_natCast]
  exact toIntS_loop xs (by omega) xs.length 0 _ (by omega) (by rw [List.length_replicate]) rfl
theorem toIntSS_ev (xs : List (List Int)) (hn : xs.length ≤ 1048576) (hy : ∀ y ∈ xs, y.length ≤ 1048576) : Ev (fun k => laws_toIntSS.f k xs) xs := by
  unfold laws_toIntSS.f
  refine Ev.pos (by omega) (Ev.pos (by omega) ?_)
  have h := to_loop (fun k ys i => laws_toIntSS.l0 k xs ys i) (fun k y => laws_toIntS.f k y) (fun t => t) (fun y => y) xs [] (by omega) (fun k ys i => laws_toIntSS.l0.eq_2 _ _ _ _)
    (fun y hm => toIntS_ev y (by have := hy y hm; omega)) xs.length 0 (List.replicate xs.length []) (by omega) (by rw [List.length_replicate]) rfl
  rw [List.map_id'] at h
  rw [Int.toNat_natCast]
  exact h
theorem eqIntS_loop (xs ys : List Int) (hl : xs.length = ys.length) (hn : xs.length ≤ 4611686018427387904) : ∀ (d i : Nat), i + d = xs.length →
    Ev (fun k => laws_eqIntS.l0 k xs ys (i : Int)) (decide (xs.drop i = ys.drop i)) := by
  intro d
  induction d with
  | zero =>
    intro i hi
    refine Ev.step (fun k => laws_eqIntS.l0.eq_2 _ _ _ _) ?_
    refine Ev.neg (by omega) (Ev.is ?_)
    rw [List.drop_of_length_le (by omega), List.drop_of_length_le (by omega)]
    rfl
  | succ d ih =>
    intro i hi
    have hlt : i < xs.length := by omega
    refine Ev.step (fun k => laws_eqIntS.l0.eq_2 _ _ _ _) ?_
    refine Ev.pos (by omega) (Ev.pos (by omega) (Ev.pos (by omega) ?_))
    rw [wrapS (Nat.le_of_lt hlt) hn, rdN, rdN, drop_cons xs 0 i hlt, drop_cons ys 0 i (by omega)]
    by_cases e : xs.getD i 0 = ys.getD i 0
    · refine Ev.pos e (Ev.to (ih (i + 1) (by omega)) ?_)
      rw [e]
      exact decide_eq_decide.2 ⟨fun h => by rw [h], fun h => (List.cons.inj h).2⟩
    · exact Ev.neg e (Ev.is (decide_eq_false (fun h => e (List.cons.inj h).1)).symm)
theorem eqIntS_ev (xs ys : List Int) (hn : xs.length ≤ 4611686018427387904) : Ev (fun k => laws_eqIntS.f k xs ys) (decide (xs = ys)) := by
  unfold laws_eqIntS.f
  by_cases e : xs.length = ys.length
  · exact Ev.pos (by omega) (eqIntS_loop xs ys e hn xs.length 0 (by omega))
  · refine Ev.neg (by omega) (Ev.is ?_)
    have : ¬ xs = ys := fun h => e (by rw [h])
    simp [this]
theorem eqIntSS_ev (xs ys : List (List Int)) (hn : xs.length ≤ 4611686018427387904) (hy : ∀ y ∈ xs, y.length ≤ 4611686018427387904) : Ev (fun k => laws_eqIntSS.f k xs ys) (decide (xs = ys)) :=
  eq_slice _ (fun k i => laws_eqIntSS.l0 k xs ys i) xs ys (fun _ => rfl)
    (fun e => eq_loop _ (fun k a b => laws_eqIntS.f k a b) xs ys [] e hn (fun k i => laws_eqIntSS.l0.eq_2 _ _ _ _) (fun a ha b _ => eqIntS_ev a b (hy a ha)) xs.length 0 (by omega))
theorem szTableau_ev (inp : ByteArray) (names : List ByteArray) (rows : List LCd) (marks : List (List Int)) (h0 : inp.size ≤ maxLen) (h1 : names.length ≤ maxLen) (h1' : ∀ y ∈ names, y.size ≤ maxLen) (h2 : rows.length ≤ maxLen) (h2' : ∀ y ∈ rows, y.f0.length ≤ maxLen) (h3 : marks.length ≤ maxLen) (h3' : ∀ y ∈ marks, y.length ≤ maxLen) (a : Int) (a0 : 0 ≤ a) (a1 : a ≤ 1048576) :
    ∃ r, Ev (fun k => laws_szTableau.f k inp names rows marks a) r ∧ -1 ≤ r ∧ r ≤ a ∧ (0 ≤ r → inp.size ≤ 1048576 ∧ names.length ≤ 1048576 ∧ (rows.length ≤ 1048576 ∧ ∀ y ∈ rows, y.f0.length ≤ 1048576) ∧ (marks.length ≤ 1048576 ∧ ∀ y ∈ marks, y.length ≤ 1048576)) := by
  unfold laws_szTableau.f
  have hw : wrap64 (a - (inp.size : Int)) = a - (inp.size : Int) := wrapI _ (by unfold maxLen at h0; omega)
  rw [hw]
  by_cases c : a - (inp.size : Int) < 0
  · exact ⟨-1, Ev.pos c (Ev.now _), by omega, by omega, fun h => by omega⟩
  obtain ⟨r1, e1, p1, p2, p3⟩ := szStringS_ev names h1 h1' (a - (inp.size : Int)) (by omega) (by omega)
  by_cases c1 : r1 < 0
  · exact ⟨-1, Ev.neg c (Ev.bind e1 (Ev.pos c1 (Ev.now _))), by omega, by omega, fun h => by omega⟩
  obtain ⟨r2, e2, p4, p5, p6⟩ := szCandS_ev rows h2 h2' r1 (by omega) (by omega)
  by_cases c2 : r2 < 0
  · exact ⟨-1, Ev.neg c (Ev.bind e1 (Ev.neg c1 (Ev.bind e2 (Ev.pos c2 (Ev.now _))))), by omega, by omega, fun h => by omega⟩
  obtain ⟨r3, e3, p7, p8, p9⟩ := szIntSS_ev marks h3 h3' r2 (by omega) (by omega)
  by_cases c3 : r3 < 0
  · exact ⟨-1, Ev.neg c (Ev.bind e1 (Ev.neg c1 (Ev.bind e2 (Ev.neg c2 (Ev.bind e3 (Ev.pos c3 (Ev.now _))))))), by omega, by omega, fun h => by omega⟩
  · exact ⟨r3, Ev.neg c (Ev.bind e1 (Ev.neg c1 (Ev.bind e2 (Ev.neg c2 (Ev.bind e3 (Ev.neg c3 (Ev.now _))))))), by omega, by omega, fun h => ⟨by omega, (p3 (by omega)).1, p6 (by omega), p9 (by omega)⟩⟩
theorem toTableau_ev (inp : ByteArray) (names : List ByteArray) (rows : List LCd) (marks : List (List Int)) (h1 : names.length ≤ 1048576) (h2 : rows.length ≤ 1048576) (h2' : ∀ y ∈ rows, y.f0.length ≤ 1048576) (h3 : marks.length ≤ 1048576) (h3' : ∀ y ∈ marks, y.length ≤ 1048576) : Ev (fun k => laws_toTableau.f k inp names rows marks) (inp, names, rows.map toCd, marks) := by
  unfold laws_toTableau.f
  exact Ev.bind (toStringS_ev names h1) (Ev.bind (toCandS_ev rows h2 h2') (Ev.bind (toIntSS_ev marks h3 h3') (Ev.now _)))
theorem eqTableau_refl (inp : ByteArray) (names : List ByteArray) (rows : List ICd) (marks : List (List Int)) (h1 : names.length ≤ 4611686018427387904) (h2 : rows.length ≤ 4611686018427387904) (h2' : ∀ y ∈ rows, y.f0.length ≤ 4611686018427387904) (h3 : marks.length ≤ 4611686018427387904) (h3' : ∀ y ∈ marks, y.length ≤ 4611686018427387904) : Ev (fun k => laws_eqTableau.f k inp names rows marks inp names rows marks) true := by
  unfold laws_eqTableau.f
  refine Ev.pos rfl (Ev.bind (eqStringS_ev _ _ h1) (Ev.pos (by simp) (Ev.bind (eqCandS_ev _ _ h2 h2') (Ev.pos (by simp) (Ev.bind (eqIntSS_ev _ _ h3 h3') (Ev.pos (by simp) (Ev.now _)))))))
theorem candS_map (rows : List LCd) (h : ∀ y ∈ rows, y.f0.length ≤ 1048576) (hw : ∀ y ∈ rows, ∀ x ∈ y.f0, (Lit.int .u8 x.f0).wf = true ∧ (Lit.int .u8 x.f1).wf = true) : ∀ c ∈ rows.map toCd, c.f0.length ≤ 1048576 ∧ okLk c.f0 := fun c hc => by
  have wf8 : ∀ {x : Int}, (Lit.int .u8 x).wf = true → 0 ≤ x ∧ x ≤ 255 := fun {x} h => by
    have h1 : IntKind.min .u8 = 0 := by decide
    have h2 : IntKind.max .u8 = 255 := by decide
    simp only [Lit.wf, h1, h2, Bool.and_eq_true, decide_eq_true_eq] at h
    exact h
  obtain ⟨z, hz, rfl⟩ := List.mem_map.1 hc
  refine ⟨?_, fun x hx => ?_⟩
  · show (z.f0.map toLk).length ≤ _
    rw [List.length_map]; exact h z hz
  · obtain ⟨y, hy2, rfl⟩ := List.mem_map.1 (show x ∈ z.f0.map toLk from hx)
    have := hw z hz y hy2
    exact ⟨wf8 this.1, wf8 this.2⟩
theorem snums_size (l : List Int) : (strOfNums l).size = l.length := by simp [strOfNums, ByteArray.size]
theorem markText_loop : ∀ (d : Nat) (m : Int) (s : ByteArray), 0 ≤ m → m < 10 ^ d → m ≤ 4611686018427387904 → s.size + d ≤ 1000 → ∃ r, Ev (fun k => laws_markText.l0 k m s) r := by
  intro d
  induction d with
  | zero =>
    intro m s h0 hm hb hs
    have : m = 0 := by simp at hm; omega
    exact ⟨_, Ev.step (fun k => laws_markText.l0.eq_2 _ _ _) (Ev.neg (by omega) (Ev.pos (by omega) (Ev.now _)))⟩
  | succ d ih =>
    intro m s h0 hm hb hs
    by_cases c : m > 0
    · have hd : Int.tdiv m 10 = m / 10 := Int.tdiv_eq_ediv_of_nonneg h0
      have hlt : m / 10 < 10 ^ d := by
        rw [Int.pow_succ] at hm
        omega
      obtain ⟨r, hr⟩ := ih (m / 10) (strOfNums [(wrap64 (48 + (Int.tmod m 10))) % 256] ++ s) (by omega) hlt (by omega) (by rw [ByteArray.size_append, snums_size]; simp only [List.length_singleton]; omega)
      refine ⟨r, Ev.step (fun k => laws_markText.l0.eq_2 _ _ _) (Ev.pos c (Ev.bind (Ev.now _) (Ev.pos (by rw [snums_size]; simp only [List.length_singleton]; omega) ?_)))⟩
      rw [hd, wrapI _ (by omega)]
      exact hr
    · exact ⟨_, Ev.step (fun k => laws_markText.l0.eq_2 _ _ _) (Ev.neg c (Ev.pos (by omega) (Ev.now _)))⟩
theorem markText_any (m : Int) (h0 : 0 ≤ m) (hm : m ≤ 4611686018427387904) : ∃ r, Ev (fun k => laws_markText.f k m) r := by
  unfold laws_markText.f
  by_cases c : m ≤ 0
  · exact ⟨_, Ev.pos c (Ev.now _)⟩
  · obtain ⟨r, hr⟩ := markText_loop 19 m (⟨#[]⟩ : ByteArray) h0 (by omega) hm (by show 0 + 19 ≤ 1000; omega)
    exact ⟨r, Ev.neg c hr⟩
theorem markStringS_loop : ∀ (d i : Nat) (ys : List ByteArray) (m : Int), i + d = ys.length → ys.length ≤ 1048576 → 0 ≤ m → m + d ≤ 4611686018427387904 →
    ∃ zs, Ev (fun k => laws_markStringS.l0 k ys m (i : Int)) (m + d, zs) := by
  intro d
  induction d with
  | zero =>
    intro i ys m hi hl h0 hm
    exact ⟨ys, Ev.step (fun k => laws_markStringS.l0.eq_2 _ _ _ _) (Ev.neg (by omega) (Ev.is (by simp)))⟩
  | succ d ih =>
    intro i ys m hi hl h0 hm
    obtain ⟨s, hs⟩ := markText_any m h0 (by omega)
    obtain ⟨zs, hr⟩ := ih (i + 1) (ys.set i s) (m + 1) (by rw [List.length_set]; omega) (by rw [List.length_set]; exact hl) (by omega) (by omega)
    refine ⟨zs, Ev.step (fun k => laws_markStringS.l0.eq_2 _ _ _ _) (Ev.pos (by omega) (Ev.bind hs (Ev.pos (by omega) ?_)))⟩
    rw [wrapS (n := ys.length) (by omega) (by omega), wrapI (m + 1) (by omega), Int.toNat_natCast, show m + ((d + 1 : Nat) : Int) = m + 1 + d by omega]
    exact hr
theorem markStringS_any (ys : List ByteArray) (m : Int) (hl : ys.length ≤ 1048576) (h0 : 0 ≤ m) (hm : m + ys.length ≤ 4611686018427387904) :
    ∃ zs, Ev (fun k => laws_markStringS.f k ys m) (m + ys.length, zs) := markStringS_loop ys.length 0 ys m (by omega) hl h0 hm
def marked (n : Nat) (m : Int) : List Int := (List.range n).map (fun i : Nat => m + (i : Int))
theorem marked_length (n : Nat) (m : Int) : (marked n m).length = n := by simp [marked]
theorem marked_at (n : Nat) (m : Int) (i : Nat) (h : i < n) : (marked n m).getD i 0 = m + i := by
  rw [getD_at _ _ _ (by simpa [marked] using h)]; simp [marked]
theorem markIntS_loop (n : Nat) (m : Int) (h0 : 0 ≤ m) (hn : m + n ≤ 4611686018427387904) : ∀ (d i : Nat) (ys : List Int), i + d = n → ys.length = n → ys.take i = (marked n m).take i → Ev (fun k => laws_markIntS.l0 k ys (m + i) (i : Int)) (m + n, marked n m) := by
  intro d
  induction d with
  | zero =>
    intro i ys hi hl ht
    obtain rfl : i = n := by omega
    refine Ev.step (fun k => laws_markIntS.l0.eq_2 _ _ _ _) (Ev.neg (by omega) (Ev.is ?_))
    rw [List.take_of_length_le (by omega), List.take_of_length_le (by rw [marked_length]; omega)] at ht
    rw [ht]
  | succ d ih =>
    intro i ys hi hl ht
    have hlt : i < n := by omega
    obtain ⟨h1, h2⟩ := set_fill (marked n m) ys 0 i (by rw [marked_length]; exact hlt) (by rw [marked_length]; exact hl) ht
    rw [marked_at n m i hlt, marked_length] at *
    refine Ev.step (fun k => laws_markIntS.l0.eq_2 _ _ _ _) (Ev.pos (by omega) (Ev.pos (by omega) ?_))
    rw [wrapS (n := n) (by omega) (by omega), wrapI (m + i + 1) (by omega), Int.toNat_natCast]
    have := ih (i + 1) _ (by omega) h1 h2
    rwa [show m + ((i + 1 : Nat) : Int) = m + i + 1 by omega] at this
theorem markIntS_ev (xs : List Int) (m : Int) (h0 : 0 ≤ m) (hn : m + xs.length ≤ 4611686018427387904) : Ev (fun k => laws_markIntS.f k xs m) (m + xs.length, marked xs.length m) := by
  have := markIntS_loop xs.length m h0 hn xs.length 0 xs (by omega) rfl rfl
  unfold laws_markIntS.f
  simpa using this
theorem markLinkS_loop : ∀ (d i : Nat) (ys : List (S70)) (m : Int), i + d = ys.length → ys.length ≤ 1048576 → 0 ≤ m → m + 2 * d ≤ 4611686018427387904 → ∃ zs, Ev (fun k => laws_markLinkS.l0 k ys m (i : Int)) (m + 2 * d, zs) ∧ zs.length = ys.length := by
  intro d
  induction d with
  | zero =>
    intro i ys m hi hl h0 hm
    exact ⟨ys, Ev.step (fun k => laws_markLinkS.l0.eq_2 _ _ _ _) (Ev.neg (by omega) (Ev.is (by simp))), rfl⟩
  | succ d ih =>
    intro i ys m hi hl h0 hm
    obtain ⟨y1, hy1⟩ : ∃ y1, y1 = ys.set ((i : Int) : Int).toNat (⟨m % 256, (rd_T70 ys (i : Int)).f1⟩ : S70) := ⟨_, rfl⟩
    have hl1 : y1.length = ys.length := by rw [hy1, List.length_set]
    obtain ⟨zs, hz, hzl⟩ := ih (i + 1) (y1.set ((i : Int) : Int).toNat (⟨(rd_T70 y1 (i : Int)).f0, (m + 1) % 256⟩ : S70)) (m + 2) (by rw [List.length_set]; omega) (by rw [List.length_set]; omega) (by omega) (by omega)
    refine ⟨zs, Ev.step (fun k => laws_markLinkS.l0.eq_2 _ _ _ _) (Ev.pos (by omega) (Ev.pos (by omega) (Ev.bind (Ev.now _) ?_))), ?_⟩
    · rw [wrapS (n := ys.length) (by omega) (by omega), wrapI (m + 1) (by omega), wrapI (m + 1 + 1) (by omega), show m + 1 + 1 = m + 2 by omega, show m + 2 * ((d + 1 : Nat) : Int) = m + 2 + 2 * d by omega, ← hy1]
      exact hz
    · rw [hzl, List.length_set, hl1]
theorem markLinkS_any (ys : List (S70)) (m : Int) (hl : ys.length ≤ 1048576) (h0 : 0 ≤ m) (hm : m + 2097152 ≤ 4611686018427387904) : ∃ zs, Ev (fun k => laws_markLinkS.f k ys m) (m + 2 * ys.length, zs) ∧ zs.length = ys.length := markLinkS_loop ys.length 0 ys m (by omega) hl h0 (by omega)
theorem markCandS_loop : ∀ (d i : Nat) (ys : List ICd) (m : Int), i + d = ys.length → ys.length ≤ 1048576 → (∀ y ∈ ys, y.f0.length ≤ 1048576) → 0 ≤ m → m + 2097152 * d ≤ 4611686018427387904 →
    ∃ r zs, Ev (fun k => laws_markCandidateS.l0 k ys m (i : Int)) (r, zs) ∧ 0 ≤ r ∧ r ≤ m + 2097152 * d := by
  intro d
  induction d with
  | zero =>
    intro i ys m hi hl hy h0 hm
    exact ⟨m, ys, Ev.step (fun k => laws_markCandidateS.l0.eq_2 _ _ _ _) (Ev.neg (by omega) (Ev.now _)), h0, by omega⟩
  | succ d ih =>
    intro i ys m hi hl hy h0 hm
    have hlt : i < ys.length := by omega
    have hx := hy _ (mem_getD ys z50 i hlt)
    obtain ⟨ws, hw, hwl⟩ := markLinkS_any (ys.getD i z50).f0 m hx h0 (by omega)
    obtain ⟨r, zs, hr, h1, h2⟩ := ih (i + 1) (ys.set i ⟨ws⟩) (m + 2 * (ys.getD i z50).f0.length) (by rw [List.length_set]; omega) (by rw [List.length_set]; exact hl)
      (fun y hm => by rcases List.mem_or_eq_of_mem_set hm with h | h; exact hy y h; rw [h]; simp only [hwl]; exact hx) (by omega) (by omega)
    refine ⟨r, zs, Ev.step (fun k => laws_markCandidateS.l0.eq_2 _ _ _ _) (Ev.pos (by omega) (Ev.pos (by omega) (Ev.bind (by rw [Int.toNat_natCast]; exact hw) ?_))), h1, by omega⟩
    simp only [Int.toNat_natCast]
    rw [wrapS (n := ys.length) (by omega) (by omega)]
    exact hr
theorem markIntSS_loop : ∀ (d i : Nat) (ys : List (List Int)) (m : Int), i + d = ys.length → ys.length ≤ 1048576 → (∀ y ∈ ys, y.length ≤ 1048576) → 0 ≤ m → m + 1048576 * d ≤ 4611686018427387904 →
    ∃ r zs, Ev (fun k => laws_markIntSS.l0 k ys m (i : Int)) (r, zs) ∧ 0 ≤ r ∧ r ≤ m + 1048576 * d := by
  intro d
  induction d with
  | zero =>
    intro i ys m hi hl hy h0 hm
    exact ⟨m, ys, Ev.step (fun k => laws_markIntSS.l0.eq_2 _ _ _ _) (Ev.neg (by omega) (Ev.now _)), h0, by omega⟩
  | succ d ih =>
    intro i ys m hi hl hy h0 hm
    have hlt : i < ys.length := by omega
    have hx := hy _ (mem_getD ys [] i hlt)
    obtain ⟨r, zs, hr, h1, h2⟩ := ih (i + 1) (ys.set i (marked (ys.getD i []).length m)) (m + (ys.getD i []).length) (by rw [List.length_set]; omega) (by rw [List.length_set]; exact hl)
      (fun y hm => by rcases List.mem_or_eq_of_mem_set hm with h | h; exact hy y h; rw [h, marked_length]; exact hx) (by omega) (by omega)
    refine ⟨r, zs, Ev.step (fun k => laws_markIntSS.l0.eq_2 _ _ _ _) (Ev.pos (by omega) (Ev.pos (by omega) (Ev.bind (by rw [Int.toNat_natCast]; exact markIntS_ev _ m h0 (by omega)) ?_))), h1, by omega⟩
    simp only [Int.toNat_natCast]
    rw [wrapS (n := ys.length) (by omega) (by omega)]
    exact hr
theorem markTableau_any (inp : ByteArray) (names : List ByteArray) (rows : List ICd) (marks : List (List Int)) (h1 : names.length ≤ 1048576) (h2 : rows.length ≤ 1048576) (h2' : ∀ y ∈ rows, y.f0.length ≤ 1048576) (h3 : marks.length ≤ 1048576) (h3' : ∀ y ∈ marks, y.length ≤ 1048576) :
    ∃ r z1 z2 z3, Ev (fun k => laws_markTableau.f k inp names rows marks 1) (r, z1, z2, z3) ∧ 0 ≤ r ∧ r ≤ 4398046511104 := by
  unfold laws_markTableau.f
  obtain ⟨z1, e1⟩ := markStringS_any names 1 h1 (by omega) (by omega)
  obtain ⟨r2, z2, e2, p1, p2⟩ := markCandS_loop rows.length 0 rows (1 + names.length) (by omega) h2 h2' (by omega) (by omega)
  obtain ⟨r3, z3, e3, p3, p4⟩ := markIntSS_loop marks.length 0 marks r2 (by omega) h3 h3' p1 (by omega)
  exact ⟨r3, z1, z2, z3, Ev.bind e1 (Ev.bind e2 (Ev.bind e3 (Ev.now _))), p3, by omega⟩
theorem heldIntS_loop (n : Nat) (m : Int) (h0 : 0 ≤ m) (hn : m + n ≤ 4611686018427387904) : ∀ (d i : Nat), i + d = n → Ev (fun k => laws_heldIntS.l0 k (marked n m) (m + i) (i : Int)) (m + n) := by
  intro d
  induction d with
  | zero =>
    intro i hi
    obtain rfl : i = n := by omega
    exact Ev.step (fun k => laws_heldIntS.l0.eq_2 _ _ _ _) (Ev.neg (by rw [marked_length]; omega) (Ev.now _))
  | succ d ih =>
    intro i hi
    have hlt : i < n := by omega
    refine Ev.step (fun k => laws_heldIntS.l0.eq_2 _ _ _ _) (Ev.pos (by rw [marked_length]; omega) (Ev.pos (by omega) ?_))
    rw [rdN, marked_at n m i hlt, wrapS (n := n) (by omega) (by omega), wrapI (m + i + 1) (by omega)]
    refine Ev.pos rfl ?_
    have := ih (i + 1) (by omega)
    rwa [show m + ((i + 1 : Nat) : Int) = m + i + 1 by omega] at this
theorem heldIntS_ev (n : Nat) (m : Int) (h0 : 0 ≤ m) (hn : m + n ≤ 4611686018427387904) : Ev (fun k => laws_heldIntS.f k (marked n m) m) (m + n) := by
  have := heldIntS_loop n m h0 hn n 0 (by omega)
  unfold laws_heldIntS.f
  simpa using this
def markSS : List (List Int) → Int → List (List Int)
  | [], _ => []
  | y :: ys, m => marked y.length m :: markSS ys (m + y.length)
theorem markSS_loop : ∀ (rest done : List (List Int)) (m : Int), done.length + rest.length ≤ 1048576 → (∀ y ∈ rest, y.length ≤ 1048576) → 0 ≤ m → m + 1048576 * rest.length ≤ 4611686018427387904 → Ev (fun k => laws_markIntSS.l0 k (done ++ rest) m (done.length : Int)) (m + rest.flatten.length, done ++ markSS rest m)
  | [], done, m, hl, hy, h0, hm => by
    refine Ev.step (fun k => laws_markIntSS.l0.eq_2 _ _ _ _) (Ev.neg (by simp) (Ev.is ?_))
    simp [markSS]
  | y :: ys, done, m, hl, hy, h0, hm => by
    have hx := hy y (List.mem_cons_self ..)
    have hlt : done.length < (done ++ y :: ys).length := by rw [List.length_append, List.length_cons]; omega
    have hg : (done ++ y :: ys).getD done.length [] = y := by rw [List.getD_eq_getElem?_getD, List.getElem?_append_right (Nat.le_refl _), Nat.sub_self]; rfl
    have hs : ∀ z, (done ++ y :: ys).set done.length z = (done ++ [z]) ++ ys := fun z => by rw [List.set_append_right _ _ (Nat.le_refl _), Nat.sub_self, List.append_assoc]; rfl
    rw [List.length_cons] at hl hm
    have ih := markSS_loop ys (done ++ [marked y.length m]) (m + y.length) (by rw [List.length_append, List.length_singleton]; omega) (fun z h => hy z (List.mem_cons_of_mem _ h)) (by omega) (by omega)
    refine Ev.step (fun k => laws_markIntSS.l0.eq_2 _ _ _ _) (Ev.pos (by omega) (Ev.pos (by omega) (Ev.bind (by rw [Int.toNat_natCast, hg]; exact markIntS_ev y m h0 (by omega)) ?_)))
    simp only [Int.toNat_natCast]
    rw [hs, wrapS (n := done.length) (Nat.le_refl _) (by omega)]
    rw [List.length_append, List.length_singleton] at ih
    rw [markSS, List.append_cons done (marked y.length m) (markSS ys (m + y.length))]
    rw [List.flatten_cons, List.length_append, show m + ((y.length + ys.flatten.length : Nat) : Int) = m + (y.length : Int) + (ys.flatten.length : Int) by omega]
    exact ih
theorem markSS_ev (ys : List (List Int)) (m : Int) (hl : ys.length ≤ 1048576) (hy : ∀ y ∈ ys, y.length ≤ 1048576) (h0 : 0 ≤ m) (hm : m + 1048576 * ys.length ≤ 4611686018427387904) : Ev (fun k => laws_markIntSS.f k ys m) (m + ys.flatten.length, markSS ys m) :=
  markSS_loop ys [] m (by simpa using hl) hy h0 hm
theorem heldSS_loop : ∀ (rest done : List (List Int)) (m : Int), done.length + rest.length ≤ 1048576 → (∀ y ∈ rest, y.length ≤ 1048576) → 0 ≤ m → m + 1048576 * rest.length ≤ 4611686018427387904 → Ev (fun k => laws_heldIntSS.l0 k (done ++ markSS rest m) m (done.length : Int)) (m + rest.flatten.length)
  | [], done, m, hl, hy, h0, hm => by
    refine Ev.step (fun k => laws_heldIntSS.l0.eq_2 _ _ _ _) (Ev.neg (by simp [markSS]) (Ev.is ?_))
    simp
  | y :: ys, done, m, hl, hy, h0, hm => by
    have hx := hy y (List.mem_cons_self ..)
    rw [markSS]
    have hlt : done.length < (done ++ marked y.length m :: markSS ys (m + y.length)).length := by rw [List.length_append, List.length_cons]; omega
    have hg : (done ++ marked y.length m :: markSS ys (m + y.length)).getD done.length [] = marked y.length m := by rw [List.getD_eq_getElem?_getD, List.getElem?_append_right (Nat.le_refl _), Nat.sub_self]; rfl
    rw [List.length_cons] at hl hm
    have ih := heldSS_loop ys (done ++ [marked y.length m]) (m + y.length) (by rw [List.length_append, List.length_singleton]; omega) (fun z h => hy z (List.mem_cons_of_mem _ h)) (by omega) (by omega)
    refine Ev.step (fun k => laws_heldIntSS.l0.eq_2 _ _ _ _) (Ev.pos (by omega) (Ev.pos (by omega) ?_))
    rw [show rd_L6 (done ++ marked y.length m :: markSS ys (m + y.length)) (done.length : Int) = (done ++ marked y.length m :: markSS ys (m + y.length)).getD done.length [] from rfl, hg]
    refine Ev.bind (heldIntS_ev y.length m h0 (by omega)) (Ev.neg (by omega) ?_)
    rw [wrapS (n := done.length) (Nat.le_refl _) (by omega)]
    rw [List.length_append, List.length_singleton, List.append_assoc] at ih
    rw [List.flatten_cons, List.length_append, show m + ((y.length + ys.flatten.length : Nat) : Int) = m + (y.length : Int) + (ys.flatten.length : Int) by omega]
    exact ih
theorem heldSS_ev (ys : List (List Int)) (m : Int) (hl : ys.length ≤ 1048576) (hy : ∀ y ∈ ys, y.length ≤ 1048576) (h0 : 0 ≤ m) (hm : m + 1048576 * ys.length ≤ 4611686018427387904) : Ev (fun k => laws_heldIntSS.f k (markSS ys m) m) (m + ys.flatten.length) :=
  heldSS_loop ys [] m (by simpa using hl) hy h0 hm
set_option maxHeartbeats 8000000 in
theorem FnExactDifferencesFor (a0_0 : ByteArray) (l0_1 : List (ByteArray)) (l0_2 : List (S75)) (l0_3 : List (List (Int))) (a1 : Int) (h0_0 : a0_0.size ≤ maxLen) (h0_1 : (l0_1.length ≤ maxLen ∧ ∀ y1 ∈ l0_1, y1.size ≤ maxLen)) (h0_2 : (l0_2.length ≤ maxLen ∧ ∀ y2 ∈ l0_2, ((y2.f0.length ≤ maxLen ∧ ∀ y3 ∈ y2.f0, ((Lit.int .u8 y3.f0).wf = true ∧ (Lit.int .u8 y3.f1).wf = true))))) (h0_3 : (l0_3.length ≤ maxLen ∧ ∀ y4 ∈ l0_3, (y4.length ≤ maxLen ∧ ∀ y5 ∈ y4, (Lit.int .i64 y5).wf = true))) (h1 : (Lit.int .i64 a1).wf = true) : ∃ k, laws_FnExactDifferencesFor.f k a0_0 l0_1 l0_2 l0_3 a1 = some true := by
  refine Ev.rounds (g := fun k => laws_FnExactDifferencesFor.f k a0_0 l0_1 l0_2 l0_3 a1) ?_
  unfold laws_FnExactDifferencesFor.f
  obtain ⟨q, e, p1, p2, p3⟩ := szTableau_ev a0_0 l0_1 l0_2 l0_3 h0_0 h0_1.1 h0_1.2 h0_2.1 (fun y h => (h0_2.2 y h).1) h0_3.1 (fun y h => (h0_3.2 y h).1) 1048576 (by omega) (by omega)
  refine Ev.bind e ?_
  by_cases c1 : q < 0
  · exact Ev.pos c1 (Ev.now _)
  refine Ev.neg c1 ?_
  obtain ⟨b0, b1, ⟨b2, b2'⟩, b3, b3'⟩ := p3 (by omega)
  have t0 := toTableau_ev a0_0 l0_1 l0_2 l0_3 b1 b2 b2' b3 b3'
  have hc := candS_map l0_2 b2' (fun y hy => (h0_2.2 y hy).2)
  have hlen : (l0_2.map toCd).length ≤ 1048576 := by rw [List.length_map]; exact b2
  generalize l0_2.map toCd = rows at *
  obtain ⟨w, hs, hi, hwl, hwy⟩ := diffs_ev a0_0 l0_1 rows l0_3 a1 (by omega) (by omega) hlen b3 b3' (fun y hy x hx => wf64 ((h0_3.2 y hy).2 x hx)) hc
  obtain ⟨r1, z1, z2, z3, f1, g1, g2⟩ := markTableau_any a0_0 l0_1 rows l0_3 b1 hlen (fun y h => (hc y h).1) b3 b3'
  have same : ∀ {α : Type} [DecidableEq α] (x : α), decide (x = x) = true := fun x => decide_eq_true rfl
  have eqw := eqIntSS_ev w w (by omega) (fun y h => by have := hwy y h; omega)
  have hm := markSS_ev w 1 (by omega) (fun y h => by have := hwy y h; omega) (by omega) (by omega)
  have hh := heldSS_ev w 1 (by omega) (fun y h => by have := hwy y h; omega) (by omega) (by omega)
  refine Ev.bind t0 (Ev.bind hs (Ev.bind t0 (Ev.bind hi (Ev.bind eqw (Ev.pos (same _) ?_)))))
  refine Ev.bind t0 (Ev.bind (eqTableau_refl a0_0 l0_1 rows l0_3 (by omega) (by omega) (fun y h => by have := (hc y h).1; omega) (by omega) (fun y h => by have := b3' y h; omega)) (Ev.pos rfl ?_))
  refine Ev.bind f1 (Ev.neg (by simp only []; omega) (Ev.bind eqw (Ev.pos (same _) ?_)))
  refine Ev.bind hm (Ev.bind hh (Ev.neg (by omega) (Ev.pos rfl ?_)))
  refine Ev.bind t0 (Ev.bind hi (Ev.bind eqw (Ev.pos (same _) ?_)))
  exact Ev.bind hh (Ev.neg (by omega) (Ev.pos rfl (Ev.now _)))
end Go.Proofs.YtkddpilambnicaaGreat.Pure
