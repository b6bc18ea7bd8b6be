/- The program's FormatDerivation and the reference's answer alike, and the argument stays. Conditions: what a slice may hold at most. -/
import Derived.Test.YtcebnmagigadpaaPFnExactFormatDerivationx0
import Derived.Test.YtcebnmagigadpaaPFnExactFormatDerivationx1
import Derived.Test.YtcebnmagigadpaaPFnExactFormatDerivationx2
import Derived.Test.YtcebnmagigadpaaPFnExactFormatDerivationx3
import Derived.Test.YtcebnmagigadpaaPFnExactFormatDerivationx4
import Derived.Test.YtcebnmagigadpaaPFnExactFormatDerivationx5
import Derived.Test.YtcebnmagigadpaaPFnExactFormatDerivationx6
import Derived.Test.YtcebnmagigadpaaKit
import Derived.WideShapes
import Derived.Laws.Strings
set_option linter.unusedVariables false
set_option linter.unusedSimpArgs false
namespace Go.Proofs.Ytcebnmagigadpaa.Pure
open Go.RowKit Go.WideShapes Go.Proofs.Ytcebnmagigadpaa.PFnExactFormatDerivation Go.Proofs.Ytcebnmagigadpaa.Kit Go.Proofs.YtcebnmagigadpaaW.PrintWords Go.Proofs.YtcebnmagigadpaaW.PrintLast
def isSound (b : Int) : Bool := decide (b = 112) || decide (b = 116) || decide (b = 98) || decide (b = 100) || decide (b = 110) || decide (b = 97) || decide (b = 105)
def swapV (a0 : Int) : Int × Bool := if a0 = 112 then (98, true) else (if a0 = 98 then (112, true) else (if a0 = 116 then (100, true) else (if a0 = 100 then (116, true) else (a0, false))))
theorem byte_fin {b : Int} (h : 0 ≤ b ∧ b ≤ 255) : ∃ q : Fin 256, b = (q.val : Int) := ⟨⟨b.toNat, by omega⟩, by simp; omega⟩
set_option maxRecDepth 100000 in
theorem specSound_fin : ∀ q : Fin 256, spec_IsSound.f 9 (q.val : Int) = some (isSound (q.val : Int)) := by decide +kernel
set_option maxRecDepth 100000 in
theorem implSound_fin : ∀ q : Fin 256, impl_IsSound.f (q.val : Int) = some (isSound (q.val : Int)) := by decide +kernel
set_option maxRecDepth 100000 in
theorem implSwap_fin : ∀ q : Fin 256, impl_SwapVoice.f (q.val : Int) = some (swapV (q.val : Int)) := by decide +kernel
theorem specSound_ev (b : Int) (h : 0 ≤ b ∧ b ≤ 255) : Ev (fun k => spec_IsSound.f k b) (isSound b) := by
  obtain ⟨q, rfl⟩ := byte_fin h
  exact Ev.of (fun k => spec_IsSound.mono _ k) (specSound_fin q)
theorem implSound_ev (b : Int) (h : 0 ≤ b ∧ b ≤ 255) : Ev (fun _ => impl_IsSound.f b) (isSound b) := by
  obtain ⟨q, rfl⟩ := byte_fin h
  exact Ev.flat (implSound_fin q)
theorem implSwap_ev (b : Int) (h : 0 ≤ b ∧ b ≤ 255) : Ev (fun _ => impl_SwapVoice.f b) (swapV b) := by
  obtain ⟨q, rfl⟩ := byte_fin h
  exact Ev.flat (implSwap_fin q)
theorem specSwap_ev (b : Int) : Ev (fun _ => spec_SwapVoice.f b) (swapV b) := by
  refine Ev.flat ?_
  unfold spec_SwapVoice.f swapV
  by_cases h1 : b = 112
  · simp [h1]
  · by_cases h2 : b = 98
    · simp [h2]
    · by_cases h3 : b = 116
      · simp [h3]
      · by_cases h4 : b = 100
        · simp [h4]
        · simp [h1, h2, h3, h4]
theorem sound_swap (b : Int) (h : (swapV b).2 = true) : isSound (swapV b).1 = true := by
  unfold swapV at *
  by_cases h1 : b = 112
  · simp [h1, isSound]
  · by_cases h2 : b = 98
    · simp [h2, isSound]
    · by_cases h3 : b = 116
      · simp [h3, isSound]
      · by_cases h4 : b = 100
        · simp [h4, isSound]
        · simp [h1, h2, h3, h4] at h
theorem sound_zero : isSound 0 = false := by decide
theorem sound_lt {b : Int} (h : isSound b = true) : 0 < b ∧ b < 128 := by
  unfold isSound at h
  simp only [Bool.or_eq_true, decide_eq_true_eq] at h
  omega
abbrev Lk := S161
def isLink (i o : Int) : Bool := if i = 0 then isSound o else if isSound i = true then (if o = 0 then true else if o = i then true else if (swapV i).2 = true then ((swapV i).1 == o) else false) else false
theorem isLink_0 {i o : Int} (c : i = 0) : isLink i o = isSound o := by unfold isLink; rw [if_pos c]
theorem isLink_n {i o : Int} (c : ¬ i = 0) (c1 : ¬ isSound i = true) : isLink i o = false := by unfold isLink; rw [if_neg c, if_neg c1]
theorem isLink_o {i o : Int} (c : ¬ i = 0) (c1 : isSound i = true) (c2 : o = 0) : isLink i o = true := by unfold isLink; rw [if_neg c, if_pos c1, if_pos c2]
theorem isLink_e {i o : Int} (c : ¬ i = 0) (c1 : isSound i = true) (c2 : ¬ o = 0) (c3 : o = i) : isLink i o = true := by unfold isLink; rw [if_neg c, if_pos c1, if_neg c2, if_pos c3]
theorem isLink_s {i o : Int} (c : ¬ i = 0) (c1 : isSound i = true) (c2 : ¬ o = 0) (c3 : ¬ o = i) (c4 : (swapV i).2 = true) : isLink i o = ((swapV i).1 == o) := by unfold isLink; rw [if_neg c, if_pos c1, if_neg c2, if_neg c3, if_pos c4]
theorem isLink_f {i o : Int} (c : ¬ i = 0) (c1 : isSound i = true) (c2 : ¬ o = 0) (c3 : ¬ o = i) (c4 : ¬ (swapV i).2 = true) : isLink i o = false := by unfold isLink; rw [if_neg c, if_pos c1, if_neg c2, if_neg c3, if_neg c4]
theorem implLink_ev (i o : Int) (hi : 0 ≤ i ∧ i ≤ 255) (ho : 0 ≤ o ∧ o ≤ 255) : Ev (fun _ => impl_isLink.f i o) (isLink i o) := by
  unfold impl_isLink.f
  by_cases c : i = 0
  · rw [isLink_0 c]
    exact Ev.pos c (Ev.bind (implSound_ev o ho) (Ev.now _))
  · refine Ev.neg c (Ev.bind (implSound_ev i hi) ?_)
    by_cases c1 : isSound i = true
    · refine Ev.pos c1 ?_
      by_cases c2 : o = 0
      · rw [isLink_o c c1 c2]; exact Ev.pos c2 (Ev.now _)
      · refine Ev.neg c2 ?_
        by_cases c3 : o = i
        · rw [isLink_e c c1 c2 c3]; exact Ev.pos c3 (Ev.now _)
        · refine Ev.neg c3 (Ev.bind (implSwap_ev i hi) ?_)
          by_cases c4 : (swapV i).2 = true
          · rw [isLink_s c c1 c2 c3 c4]; exact Ev.pos c4 (Ev.now _)
          · rw [isLink_f c c1 c2 c3 c4]; exact Ev.neg c4 (Ev.now _)
    · rw [isLink_n c c1]; exact Ev.neg c1 (Ev.now _)
def keyOf (o : Bool) (x : Lk) : Int := if o = true then x.f1 else x.f0
def snds (o : Bool) (xs : List Lk) : List Int := (xs.map (keyOf o)).filter (fun b => decide (b ≠ 0))
theorem snds_len (o : Bool) (xs : List Lk) : (snds o xs).length ≤ xs.length := by
  have := List.length_filter_le (fun b : Int => decide (b ≠ 0)) (xs.map (keyOf o))
  rw [List.length_map] at this
  exact this
theorem snds_snoc (o : Bool) (xs : List Lk) (i : Nat) (h : i < xs.length) : snds o (xs.take (i + 1)) = snds o (xs.take i) ++ (if keyOf o (xs.getD i z161) = 0 then [] else [keyOf o (xs.getD i z161)]) := by
  rw [take_succ' xs z161 i h]
  unfold snds
  rw [List.map_append, List.filter_append]
  generalize xs.getD i z161 = x
  congr 1
  by_cases c : keyOf o x = 0
  · rw [if_pos c]; simp [c]
  · rw [if_neg c]; simp [c]
theorem sn_size (l : List Int) : (strOfNums l).size = l.length := by simp [strOfNums, ByteArray.size]
theorem l6In_loop (xs : List Lk) (hn : xs.length ≤ 1000000) : ∀ (d i : Nat), i + d = xs.length → Ev (fun k => spec_l6In.l0 k (snds false (xs.take i)) (i : Int) xs) (strOfNums (snds false xs)) := by
  intro d
  induction d with
  | zero =>
    intro i hi
    rw [List.take_of_length_le (by omega)]
    exact Ev.step (fun k => spec_l6In.l0.eq_2 _ _ _ _) (Ev.neg (by omega) (Ev.now _))
  | succ d ih =>
    intro i hi
    have hlt : i < xs.length := by omega
    have e := snds_snoc false xs i hlt
    have hl := snds_len false (xs.take i)
    rw [List.length_take] at hl
    refine Ev.step (fun k => spec_l6In.l0.eq_2 _ _ _ _) (Ev.pos (by omega) (Ev.pos (by omega) ?_))
    rw [wrapS (n := xs.length) (by omega) (by omega), show rd_T161 xs (i : Int) = xs.getD i z161 from rfl]
    have := ih (i + 1) (by omega)
    by_cases c : (xs.getD i z161).f0 = 0
    · rw [if_pos (show keyOf false (xs.getD i z161) = 0 from c), List.append_nil] at e
      rw [e] at this
      exact Ev.pos c this
    · rw [if_neg (show ¬ keyOf false (xs.getD i z161) = 0 from c)] at e
      rw [e] at this
      exact Ev.neg c (Ev.pos (by omega) this)
theorem l6Out_loop (xs : List Lk) (hn : xs.length ≤ 1000000) : ∀ (d i : Nat), i + d = xs.length → Ev (fun k => spec_l6Out.l0 k (snds true (xs.take i)) (i : Int) xs) (strOfNums (snds true xs)) := by
  intro d
  induction d with
  | zero =>
    intro i hi
    rw [List.take_of_length_le (by omega)]
    exact Ev.step (fun k => spec_l6Out.l0.eq_2 _ _ _ _) (Ev.neg (by omega) (Ev.now _))
  | succ d ih =>
    intro i hi
    have hlt : i < xs.length := by omega
    have e := snds_snoc true xs i hlt
    have hl := snds_len true (xs.take i)
    rw [List.length_take] at hl
    refine Ev.step (fun k => spec_l6Out.l0.eq_2 _ _ _ _) (Ev.pos (by omega) (Ev.pos (by omega) ?_))
    rw [wrapS (n := xs.length) (by omega) (by omega), show rd_T161 xs (i : Int) = xs.getD i z161 from rfl]
    have := ih (i + 1) (by omega)
    by_cases c : (xs.getD i z161).f1 = 0
    · rw [if_pos (show keyOf true (xs.getD i z161) = 0 from c), List.append_nil] at e
      rw [e] at this
      exact Ev.pos c this
    · rw [if_neg (show ¬ keyOf true (xs.getD i z161) = 0 from c)] at e
      rw [e] at this
      exact Ev.neg c (Ev.pos (by omega) this)
theorem implSounds_loop (o : Bool) (xs : List Lk) (hn : xs.length ≤ 1000000) : ∀ (d i : Nat), i + d = xs.length → Ev (fun k => impl_sounds.l0 k o (snds o (xs.take i)) xs (xs.length : Int) (i : Int)) (strOfNums (snds o xs)) := by
  intro d
  induction d with
  | zero =>
    intro i hi
    rw [List.take_of_length_le (by omega)]
    exact Ev.step (fun k => impl_sounds.l0.eq_2 _ _ _ _ _ _) (Ev.neg (by omega) (Ev.now _))
  | succ d ih =>
    intro i hi
    have hlt : i < xs.length := by omega
    have e := snds_snoc o xs i hlt
    have hl := snds_len o (xs.take i)
    rw [List.length_take] at hl
    refine Ev.step (fun k => impl_sounds.l0.eq_2 _ _ _ _ _ _) (Ev.pos (by omega) (Ev.pos (by omega) (Ev.pos (by omega) ?_)))
    rw [wrapS (n := xs.length) (by omega) (by omega), show rd_T161 xs (i : Int) = xs.getD i z161 from rfl]
    have := ih (i + 1) (by omega)
    by_cases c : keyOf o (xs.getD i z161) = 0
    · rw [if_pos c, List.append_nil] at e
      rw [e] at this
      cases o with
      | true => exact Ev.pos rfl (Ev.pos c this)
      | false => exact Ev.neg (by simp) (Ev.pos c this)
    · rw [if_neg c] at e
      rw [e] at this
      cases o with
      | true => exact Ev.pos rfl (Ev.neg c (Ev.pos (by omega) this))
      | false => exact Ev.neg (by simp) (Ev.neg c (Ev.pos (by omega) this))
theorem l6In_ev (xs : List Lk) (hn : xs.length ≤ 1000000) : Ev (fun k => spec_l6In.f k xs) (strOfNums (snds false xs)) := l6In_loop xs hn xs.length 0 (by omega)
theorem l6Out_ev (xs : List Lk) (hn : xs.length ≤ 1000000) : Ev (fun k => spec_l6Out.f k xs) (strOfNums (snds true xs)) := l6Out_loop xs hn xs.length 0 (by omega)
theorem implSounds_ev (o : Bool) (xs : List Lk) (hn : xs.length ≤ 1000000) : Ev (fun k => impl_sounds.f k xs o) (strOfNums (snds o xs)) := implSounds_loop o xs hn xs.length 0 (by omega)
theorem withinI_ev (a b c : Int) : Ev (fun _ => impl_within.f a b c) (decide (b ≤ a ∧ a ≤ c)) := by
  refine Ev.flat ?_
  unfold impl_within.f
  by_cases h : b ≤ a <;> simp [h]
def isForm (s : ByteArray) : Bool := decide ((∀ j, j < s.size → isSound (bt s (j : Int)) = true) ∧ s.size ≤ 8)
theorem specForm_ev (s : ByteArray) (hs : s.size ≤ 4611686018427387904) : Ev (fun k => spec_IsForm.f k s) (isForm s) := by
  unfold spec_IsForm.f
  have h2 : Ev (fun k => spec_l2Sounds.f k s) (decide ((∀ j, j < s.size → isSound (bt s (j : Int)) = true) ∧ s.size ≤ 20)) := by
    unfold spec_l2Sounds.f
    refine all_from (fun k i => spec_l2Sounds.l0 k s i) 0 s.size (fun j => isSound (bt s (j : Int)) = true) (decide ((s.size : Int) ≤ 20)) (fun i _ hi r h h' => ?_) (Ev.step (fun k => spec_l2Sounds.l0.eq_2 _ _ _) (Ev.neg (by omega) (Ev.now _))) s.size 0 (by omega) (by omega) _ ?_
    · refine Ev.step (fun k => spec_l2Sounds.l0.eq_2 _ _ _) (Ev.pos (by omega) (Ev.pos (by omega) (Ev.bind (specSound_ev _ (bt_range s i)) ?_)))
      rw [wrapS (Nat.le_of_lt hi) hs]
      by_cases c : isSound (bt s (i : Int)) = true
      · exact Ev.pos c (h c)
      · exact Ev.neg c (Ev.is (h' c).symm)
    · simp only [decide_eq_true_eq]
      exact ⟨fun h => ⟨fun j _ h2 => h.1 j h2, by omega⟩, fun h => ⟨fun j h2 => h.1 j (by omega) h2, by omega⟩⟩
  refine Ev.bind h2 ?_
  by_cases c : (∀ j, j < s.size → isSound (bt s (j : Int)) = true) ∧ s.size ≤ 20
  · refine Ev.pos (decide_eq_true c) (Ev.is ?_)
    exact decide_eq_decide.2 ⟨fun h => ⟨c.1, by omega⟩, fun h => by omega⟩
  · refine Ev.neg (by simpa only [decide_eq_true_eq] using c) (Ev.is (decide_eq_false (fun z => c ⟨z.1, by omega⟩)).symm)
theorem empty_iff (s : ByteArray) : s.toList = ([] : List UInt8) ↔ s.size = 0 := by
  rw [ByteArray.toList_eq]
  constructor
  · intro h
    have : s.data.toList.length = 0 := by rw [h]; rfl
    simpa using this
  · intro h
    exact List.eq_nil_of_length_eq_zero (by simpa using h)
theorem implForm_ev (s : ByteArray) (hs : s.size ≤ 4611686018427387904) : Ev (fun k => impl_IsForm.f k s) (isForm s) := by
  unfold impl_IsForm.f
  by_cases c0 : s.size = 0
  · refine Ev.pos ((empty_iff s).2 c0) (Ev.is (decide_eq_true ⟨fun j hj => by omega, by omega⟩).symm)
  refine Ev.neg (fun h => c0 ((empty_iff s).1 h)) ?_
  by_cases c8 : s.size ≤ 8
  · refine Ev.pos (by omega) (Ev.bind (a := isForm s) ?_ (Ev.now _))
    unfold impl_areSounds.f
    refine all_from (fun k i => impl_areSounds.l0 k s (s.size : Int) i) 0 s.size (fun j => isSound (bt s (j : Int)) = true) true (fun i _ hi r h h' => ?_) (Ev.step (fun k => impl_areSounds.l0.eq_2 _ _ _ _) (Ev.neg (by omega) (Ev.bind (withinI_ev _ _ _) (Ev.is (decide_eq_true (by omega)))))) s.size 0 (by omega) (by omega) _ ?_
    · refine Ev.step (fun k => impl_areSounds.l0.eq_2 _ _ _ _) (Ev.pos (by omega) (Ev.pos (by omega) (Ev.pos (by omega) (Ev.bind (implSound_ev _ (bt_range s i)) ?_))))
      rw [wrapS (Nat.le_of_lt hi) hs]
      by_cases c : isSound (bt s (i : Int)) = true
      · exact Ev.pos c (h c)
      · exact Ev.neg c (Ev.is (h' c).symm)
    · unfold isForm
      rw [decide_eq_true_eq]
      exact ⟨fun h => ⟨fun j _ h2 => h.1 j h2, rfl⟩, fun h => ⟨fun j h2 => h.1 j (by omega) h2, c8⟩⟩
  · exact Ev.neg (by omega) (Ev.is (decide_eq_false (fun z => c8 z.2)).symm)
def candTail (xs : List Lk) : Bool := if (xs.length : Int) ≤ 16 then (if isForm (strOfNums (snds false xs)) = true then isForm (strOfNums (snds true xs)) else false) else false
def candOK (xs : List Lk) : Bool := decide (∀ j, j < xs.length → isLink (xs.getD j z161).f0 (xs.getD j z161).f1 = true) && candTail xs
theorem candOK_iff (xs : List Lk) : candOK xs = true ↔ (∀ j, 0 ≤ j → j < xs.length → isLink (xs.getD j z161).f0 (xs.getD j z161).f1 = true) ∧ candTail xs = true := by
  unfold candOK
  rw [Bool.and_eq_true, decide_eq_true_eq]
  exact ⟨fun h => ⟨fun j _ h2 => h.1 j h2, h.2⟩, fun h => ⟨fun j h2 => h.1 j (by omega) h2, h.2⟩⟩
def okLk (xs : List Lk) : Prop := ∀ x ∈ xs, (0 ≤ x.f0 ∧ x.f0 ≤ 255) ∧ (0 ≤ x.f1 ∧ x.f1 ≤ 255)
theorem specCand_step (xs : List Lk) (n : Int) (a b : Int) (ha : 0 ≤ a ∧ a ≤ 255) (hb : 0 ≤ b ∧ b ≤ 255) (r : Bool) (h : isLink a b = true → Ev (fun k => spec_IsCandidate.l0 k (wrap64 (n + 1)) xs) r) (h' : ¬ isLink a b = true → r = false) :
    Ev (fun k => (spec_SwapVoice.f a).bind fun bt128 => (if a = 0 then (if b = 0 then (spec_IsCandidate.j1 k n bt128.1 bt128.2 (b == 0) xs a b) else ((spec_IsSound.f k b).bind fun t130 => (if t130 = true then (spec_IsCandidate.j1 k n bt128.1 bt128.2 (b == 0) xs a b) else (spec_IsCandidate.j1 k n bt128.1 bt128.2 true xs a b)))) else ((spec_IsSound.f k a).bind fun t131 => (if t131 = true then (if b = 0 then (spec_IsCandidate.j1 k n bt128.1 bt128.2 false xs a b) else ((spec_IsSound.f k b).bind fun t132 => (if t132 = true then (spec_IsCandidate.j1 k n bt128.1 bt128.2 false xs a b) else (spec_IsCandidate.j1 k n bt128.1 bt128.2 true xs a b)))) else (spec_IsCandidate.j1 k n bt128.1 bt128.2 true xs a b))))) r := by
  refine Ev.bind (specSwap_ev a) ?_
  have jt : ¬ isLink a b = true → Ev (fun k => spec_IsCandidate.j1 k n (swapV a).1 (swapV a).2 true xs a b) r := fun e => Ev.step (fun k => spec_IsCandidate.j1.eq_2 _ _ _ _ _ _ _ _) (Ev.pos rfl (Ev.is (h' e).symm))
  by_cases c : a = 0
  · refine Ev.pos c ?_
    by_cases c1 : b = 0
    · have e : (b == 0) = true := by simpa using c1
      rw [e]
      refine Ev.pos c1 (jt ?_)
      rw [isLink_0 c, c1, sound_zero]; simp
    · have e : (b == 0) = false := by simpa using c1
      rw [e]
      refine Ev.neg c1 (Ev.bind (specSound_ev b hb) ?_)
      by_cases c2 : isSound b = true
      · refine Ev.pos c2 (Ev.step (fun k => spec_IsCandidate.j1.eq_2 _ _ _ _ _ _ _ _) (Ev.neg (by simp) (Ev.pos c (h ?_))))
        rw [isLink_0 c]; exact c2
      · refine Ev.neg c2 (jt ?_)
        rw [isLink_0 c]; exact c2
  · refine Ev.neg c (Ev.bind (specSound_ev a ha) ?_)
    by_cases c0 : isSound a = true
    · refine Ev.pos c0 ?_
      by_cases c1 : b = 0
      · refine Ev.pos c1 (Ev.step (fun k => spec_IsCandidate.j1.eq_2 _ _ _ _ _ _ _ _) (Ev.neg (by simp) (Ev.neg c (Ev.pos c1 (h ?_)))))
        exact isLink_o c c0 c1
      · refine Ev.neg c1 (Ev.bind (specSound_ev b hb) ?_)
        by_cases c2 : isSound b = true
        · refine Ev.pos c2 (Ev.step (fun k => spec_IsCandidate.j1.eq_2 _ _ _ _ _ _ _ _) (Ev.neg (by simp) (Ev.neg c (Ev.neg c1 ?_))))
          by_cases c3 : a = b
          · refine Ev.pos c3 (h ?_)
            exact isLink_e c c0 c1 c3.symm
          · refine Ev.neg c3 ?_
            by_cases c4 : (swapV a).2 = true
            · have el := isLink_s (o := b) c c0 c1 (fun z => c3 z.symm) c4
              refine Ev.pos c4 ?_
              by_cases c5 : (swapV a).1 = b
              · exact Ev.pos c5 (h (by rw [el]; simpa using c5))
              · exact Ev.neg c5 (Ev.is (h' (by rw [el]; simpa using c5)).symm)
            · exact Ev.neg c4 (Ev.is (h' (by rw [isLink_f c c0 c1 (fun z => c3 z.symm) c4]; simp)).symm)
        · refine Ev.neg c2 (jt (fun z => c2 ?_))
          by_cases c3 : b = a
          · rw [c3]; exact c0
          · by_cases c4 : (swapV a).2 = true
            · rw [isLink_s c c0 c1 c3 c4] at z
              have := sound_swap a c4
              rwa [show (swapV a).1 = b from by simpa using z] at this
            · rw [isLink_f c c0 c1 c3 c4] at z; cases z
    · refine Ev.neg c0 (jt ?_)
      rw [isLink_n c c0]; simp
theorem specIsCandidate_ev (xs : List Lk) (hn : xs.length ≤ 1048576) (hb : okLk xs) : Ev (fun k => spec_IsCandidate.f k xs) (candOK xs) := by
  unfold spec_IsCandidate.f
  refine all_from (fun k i => spec_IsCandidate.l0 k i xs) 0 xs.length (fun j => isLink (xs.getD j z161).f0 (xs.getD j z161).f1 = true) (candTail xs) (fun i _ hi r h h' => ?_) ?_ xs.length 0 (by omega) (by omega) _ (candOK_iff xs)
  · have hbx := hb _ (mem_getD xs z161 i hi)
    refine Ev.step (fun k => spec_IsCandidate.l0.eq_2 _ _ _) (Ev.pos (by omega) (Ev.pos (by omega) ?_))
    rw [show rd_T161 xs (i : Int) = xs.getD i z161 from rfl]
    rw [show ((i + 1 : Nat) : Int) = wrap64 ((i : Int) + 1) from (wrapS (Nat.le_of_lt hi) (by omega)).symm] at h
    exact specCand_step xs (i : Int) _ _ hbx.1 hbx.2 r h h'
  · refine Ev.step (fun k => spec_IsCandidate.l0.eq_2 _ _ _) (Ev.neg (by omega) ?_)
    unfold candTail
    by_cases c : (xs.length : Int) ≤ 16
    · rw [if_pos c]
      have h1 := snds_len false xs
      have h2 := snds_len true xs
      refine Ev.pos c (Ev.bind (l6In_ev xs (by omega)) (Ev.bind (specForm_ev _ (by rw [sn_size]; omega)) ?_))
      by_cases c1 : isForm (strOfNums (snds false xs)) = true
      · rw [if_pos c1]
        exact Ev.pos c1 (Ev.bind (l6Out_ev xs (by omega)) (Ev.bind (specForm_ev _ (by rw [sn_size]; omega)) (Ev.now _)))
      · rw [if_neg c1]; exact Ev.neg c1 (Ev.now _)
    · rw [if_neg c]; exact Ev.neg c (Ev.now _)
theorem implIsCandidate_ev (xs : List Lk) (hn : xs.length ≤ 1048576) (hb : okLk xs) : Ev (fun k => impl_IsCandidate.f k xs) (candOK xs) := by
  unfold impl_IsCandidate.f
  refine all_from (fun k i => impl_IsCandidate.l0 k xs (xs.length : Int) i xs) 0 xs.length (fun j => isLink (xs.getD j z161).f0 (xs.getD j z161).f1 = true) (candTail xs) (fun i _ hi r h h' => ?_) ?_ xs.length 0 (by omega) (by omega) _ (candOK_iff xs)
  · have hbx := hb _ (mem_getD xs z161 i hi)
    refine Ev.step (fun k => impl_IsCandidate.l0.eq_2 _ _ _ _ _) (Ev.pos (by omega) (Ev.pos (by omega) (Ev.pos (by omega) ?_)))
    rw [show rd_T161 xs (i : Int) = xs.getD i z161 from rfl, wrapS (n := xs.length) (by omega) (by omega)]
    refine Ev.bind (implLink_ev _ _ hbx.1 hbx.2) ?_
    by_cases c : isLink (xs.getD i z161).f0 (xs.getD i z161).f1 = true
    · exact Ev.pos c (h c)
    · exact Ev.neg c (Ev.is (h' c).symm)
  · refine Ev.step (fun k => impl_IsCandidate.l0.eq_2 _ _ _ _ _) (Ev.neg (by omega) ?_)
    unfold candTail
    by_cases c : (xs.length : Int) ≤ 16
    · rw [if_pos c]
      have h1 := snds_len false xs
      have h2 := snds_len true xs
      refine Ev.pos c (Ev.bind (implSounds_ev false xs (by omega)) (Ev.bind (implForm_ev _ (by rw [sn_size]; omega)) ?_))
      by_cases c1 : isForm (strOfNums (snds false xs)) = true
      · rw [if_pos c1]
        exact Ev.pos c1 (Ev.bind (implSounds_ev true xs (by omega)) (Ev.bind (implForm_ev _ (by rw [sn_size]; omega)) (Ev.now _)))
      · rw [if_neg c1]; exact Ev.neg c1 (Ev.now _)
    · rw [if_neg c]; exact Ev.neg c (Ev.now _)
def seg (x : Lk) : ByteArray := if x.f0 = x.f1 then strOfNums [x.f0] else if x.f0 = 0 then (⟨#[43]⟩ : ByteArray) ++ strOfNums [x.f1] else if x.f1 = 0 then (⟨#[45]⟩ : ByteArray) ++ strOfNums [x.f0] else (⟨#[42]⟩ : ByteArray) ++ strOfNums [x.f0]
theorem one_size (b : Int) : (strOfNums [b]).size = 1 := by rw [sn_size]; rfl
theorem seg_size (x : Lk) : (seg x).size ≤ 2 := by
  have h1 : (⟨#[43]⟩ : ByteArray).size = 1 := rfl
  have h2 : (⟨#[45]⟩ : ByteArray).size = 1 := rfl
  have h3 : (⟨#[42]⟩ : ByteArray).size = 1 := rfl
  unfold seg
  split
  · rw [one_size]; omega
  · split
    · rw [ByteArray.size_append, one_size, h1]; omega
    · split
      · rw [ByteArray.size_append, one_size, h2]; omega
      · rw [ByteArray.size_append, one_size, h3]; omega
def segs : List Lk → ByteArray → ByteArray
  | [], s => s
  | x :: xs, s => segs xs (s ++ seg x)
theorem segs_size : ∀ (xs : List Lk) (s : ByteArray), (segs xs s).size ≤ s.size + 2 * xs.length
  | [], s => by simp [segs]
  | x :: xs, s => by
    have := segs_size xs (s ++ seg x)
    rw [ByteArray.size_append] at this
    have := seg_size x
    rw [segs, List.length_cons]
    omega
def noneB : ByteArray := ⟨#[110, 111, 110, 101]⟩
def finB (s : ByteArray) : ByteArray := if s.size = 0 then noneB else s
theorem fin_ev (s : ByteArray) : Ev (fun _ => if s.toList = ([] : List UInt8) then (some noneB) else (some s)) (finB s) := by
  unfold finB
  by_cases c : s.size = 0
  · rw [if_pos c]; exact Ev.pos ((empty_iff s).2 c) (Ev.now _)
  · rw [if_neg c]; exact Ev.neg (fun h => c ((empty_iff s).1 h)) (Ev.now _)
def fmtCand (xs : List Lk) : ByteArray := if candOK xs = true then finB (segs xs ⟨#[]⟩) else ⟨#[]⟩
theorem cand_len {xs : List Lk} (h : candOK xs = true) : xs.length ≤ 16 := by
  have h2 := ((candOK_iff xs).1 h).2
  unfold candTail at h2
  by_cases c : (xs.length : Int) ≤ 16
  · omega
  · rw [if_neg c] at h2; cases h2
theorem fmtCand_size (xs : List Lk) : (fmtCand xs).size ≤ 32 := by
  unfold fmtCand
  by_cases c : candOK xs = true
  · rw [if_pos c]
    have h1 := cand_len c
    have h2 := segs_size xs ⟨#[]⟩
    have h3 : (⟨#[]⟩ : ByteArray).size = 0 := rfl
    have h4 : noneB.size = 4 := rfl
    unfold finB
    split
    · omega
    · omega
  · rw [if_neg c]
    have h3 : (⟨#[]⟩ : ByteArray).size = 0 := rfl
    omega
theorem specFmt_loop (xs : List Lk) (hn : xs.length ≤ 16) : ∀ (d i : Nat) (s : ByteArray), i + d = xs.length → s.size ≤ 2 * i → Ev (fun k => spec_FormatCandidate.l0 k s (i : Int) xs) (finB (segs (xs.drop i) s)) := by
  intro d
  induction d with
  | zero =>
    intro i s hi hs
    rw [List.drop_of_length_le (by omega)]
    exact Ev.step (fun k => spec_FormatCandidate.l0.eq_2 _ _ _ _) (Ev.neg (by omega) (fin_ev s))
  | succ d ih =>
    intro i s hi hs
    have hlt : i < xs.length := by omega
    have h1 : (⟨#[43]⟩ : ByteArray).size = 1 := rfl
    have h2 : (⟨#[45]⟩ : ByteArray).size = 1 := rfl
    have h3 : (⟨#[42]⟩ : ByteArray).size = 1 := rfl
    have hk := ih (i + 1) (s ++ seg (xs.getD i z161)) (by omega) (by rw [ByteArray.size_append]; have := seg_size (xs.getD i z161); omega)
    rw [drop_cons xs z161 i hlt, segs]
    refine Ev.step (fun k => spec_FormatCandidate.l0.eq_2 _ _ _ _) (Ev.pos (by omega) (Ev.pos (by omega) ?_))
    rw [wrapS (n := xs.length) (by omega) (by omega), show rd_T161 xs (i : Int) = xs.getD i z161 from rfl]
    generalize finB (segs (xs.drop (i + 1)) (s ++ seg (xs.getD i z161))) = R at hk ⊢
    generalize xs.getD i z161 = x at hk ⊢
    by_cases c : x.f0 = x.f1
    · rw [show seg x = strOfNums [x.f0] from by unfold seg; rw [if_pos c]] at hk
      exact Ev.pos c (Ev.bind (Ev.now _) (Ev.pos (by rw [one_size]; omega) hk))
    · refine Ev.neg c ?_
      by_cases c1 : x.f0 = 0
      · rw [show seg x = (⟨#[43]⟩ : ByteArray) ++ strOfNums [x.f1] from by unfold seg; rw [if_neg c, if_pos c1], ← ByteArray.append_assoc] at hk
        exact Ev.pos c1 (Ev.pos (by omega) (Ev.bind (Ev.now _) (Ev.pos (by rw [one_size, ByteArray.size_append, h1]; omega) hk)))
      · refine Ev.neg c1 ?_
        by_cases c2 : x.f1 = 0
        · rw [show seg x = (⟨#[45]⟩ : ByteArray) ++ strOfNums [x.f0] from by unfold seg; rw [if_neg c, if_neg c1, if_pos c2], ← ByteArray.append_assoc] at hk
          exact Ev.pos c2 (Ev.pos (by omega) (Ev.bind (Ev.now _) (Ev.pos (by rw [one_size, ByteArray.size_append, h2]; omega) hk)))
        · rw [show seg x = (⟨#[42]⟩ : ByteArray) ++ strOfNums [x.f0] from by unfold seg; rw [if_neg c, if_neg c1, if_neg c2], ← ByteArray.append_assoc] at hk
          exact Ev.neg c2 (Ev.pos (by omega) (Ev.bind (Ev.now _) (Ev.pos (by rw [one_size, ByteArray.size_append, h3]; omega) hk)))
theorem specFormatCandidate_ev (xs : List Lk) (hn : xs.length ≤ 1048576) (hb : okLk xs) : Ev (fun k => spec_FormatCandidate.f k xs) (fmtCand xs) := by
  unfold spec_FormatCandidate.f fmtCand
  refine Ev.bind (specIsCandidate_ev xs hn hb) ?_
  by_cases c : candOK xs = true
  · rw [if_pos c]
    exact Ev.pos c (specFmt_loop xs (cand_len c) xs.length 0 _ (by omega) (Nat.zero_le _))
  · rw [if_neg c]; exact Ev.neg c (Ev.now _)
set_option maxRecDepth 100000 in
theorem enc_fin : ∀ q : Fin 128, Go.Utf8.encode (wrap32 (q.val : Int)) = strOfNums [(q.val : Int)] := by decide +kernel
theorem enc_eq {b : Int} (h : 0 < b ∧ b < 128) : Go.Utf8.encode (wrap32 b) = strOfNums [b] := by
  obtain ⟨q, rfl⟩ : ∃ q : Fin 128, b = (q.val : Int) := ⟨⟨b.toNat, by omega⟩, by simp; omega⟩
  exact enc_fin q
theorem implFmt_loop (xs : List Lk) (hn : xs.length ≤ 16) (hk : ∀ j, j < xs.length → isLink (xs.getD j z161).f0 (xs.getD j z161).f1 = true) : ∀ (d i : Nat) (s : ByteArray), i + d = xs.length → s.size ≤ 2 * i → Ev (fun k => impl_FormatCandidate.l0 k s xs (xs.length : Int) (i : Int)) (finB (segs (xs.drop i) s)) := by
  intro d
  induction d with
  | zero =>
    intro i s hi hs
    rw [List.drop_of_length_le (by omega)]
    exact Ev.step (fun k => impl_FormatCandidate.l0.eq_2 _ _ _ _ _) (Ev.neg (by omega) (fin_ev s))
  | succ d ih =>
    intro i s hi hs
    have hlt : i < xs.length := by omega
    have h1 : (⟨#[43]⟩ : ByteArray).size = 1 := rfl
    have h2 : (⟨#[45]⟩ : ByteArray).size = 1 := rfl
    have h3 : (⟨#[42]⟩ : ByteArray).size = 1 := rfl
    have hl := hk i hlt
    have hk := ih (i + 1) (s ++ seg (xs.getD i z161)) (by omega) (by rw [ByteArray.size_append]; have := seg_size (xs.getD i z161); omega)
    rw [drop_cons xs z161 i hlt, segs]
    refine Ev.step (fun k => impl_FormatCandidate.l0.eq_2 _ _ _ _ _) (Ev.pos (by omega) (Ev.pos (by omega) (Ev.pos (by omega) ?_)))
    rw [wrapS (n := xs.length) (by omega) (by omega), show rd_T161 xs (i : Int) = xs.getD i z161 from rfl]
    generalize finB (segs (xs.drop (i + 1)) (s ++ seg (xs.getD i z161))) = R at hk ⊢
    generalize xs.getD i z161 = x at hk hl ⊢
    unfold isLink at hl
    by_cases c : x.f0 = 0
    · rw [if_pos c] at hl
      have hne : ¬ x.f0 = x.f1 := fun z => by rw [← z, c, sound_zero] at hl; cases hl
      rw [show seg x = (⟨#[43]⟩ : ByteArray) ++ strOfNums [x.f1] from by unfold seg; rw [if_neg hne, if_pos c]] at hk
      rw [enc_eq (sound_lt hl)]
      exact Ev.pos c (Ev.pos (by rw [one_size]; omega) (Ev.pos (by rw [ByteArray.size_append, one_size, h1]; omega) hk))
    · rw [if_neg c] at hl
      have hsd : isSound x.f0 = true := by
        cases e : isSound x.f0 with
        | true => rfl
        | false => rw [e] at hl; simp at hl
      rw [enc_eq (sound_lt hsd)]
      refine Ev.neg c ?_
      by_cases c1 : x.f1 = 0
      · rw [show seg x = (⟨#[45]⟩ : ByteArray) ++ strOfNums [x.f0] from by unfold seg; rw [if_neg (fun z => c (by rw [z, c1])), if_neg c, if_pos c1], ← ByteArray.append_assoc] at hk
        exact Ev.pos c1 (Ev.pos (by omega) (Ev.pos (by rw [one_size, ByteArray.size_append, h2]; omega) hk))
      · refine Ev.neg c1 ?_
        by_cases c2 : x.f0 = x.f1
        · rw [show seg x = strOfNums [x.f0] from by unfold seg; rw [if_pos c2]] at hk
          exact Ev.pos c2 (Ev.pos (by rw [one_size]; omega) hk)
        · rw [show seg x = (⟨#[42]⟩ : ByteArray) ++ strOfNums [x.f0] from by unfold seg; rw [if_neg c2, if_neg c, if_neg c1], ← ByteArray.append_assoc] at hk
          exact Ev.neg c2 (Ev.pos (by omega) (Ev.pos (by rw [one_size, ByteArray.size_append, h3]; omega) hk))
theorem implFormatCandidate_ev (xs : List Lk) (hn : xs.length ≤ 1048576) (hb : okLk xs) : Ev (fun k => impl_FormatCandidate.f k xs) (fmtCand xs) := by
  unfold impl_FormatCandidate.f fmtCand
  refine Ev.bind (implIsCandidate_ev xs hn hb) ?_
  by_cases c : candOK xs = true
  · rw [if_pos c]
    exact Ev.pos c (implFmt_loop xs (cand_len c) (fun j hj => ((candOK_iff xs).1 c).1 j (by omega) hj) xs.length 0 _ (by omega) (Nat.zero_le _))
  · rw [if_neg c]; exact Ev.neg c (Ev.now _)
abbrev LLk := S199
abbrev LCd := S115
abbrev ICd := S119
deriving instance DecidableEq for S161
deriving instance DecidableEq for S119
def toLk (y : LLk) : S161 := ⟨y.f0, y.f1⟩
def toCd (y : LCd) : ICd := ⟨y.f0.map toLk⟩
theorem szCand_ev (y : LCd) (hy : y.f0.length ≤ maxLen) (a : Int) (h0 : 0 ≤ a) (h1 : a ≤ 1048576) : ∃ r, Ev (fun _ => laws_szCandidate.f y.f0 a) r ∧ -1 ≤ r ∧ r ≤ a ∧ (0 ≤ r → y.f0.length ≤ 1048576) := by
  obtain ⟨r, hr, h1, h2, h3⟩ := sz_leaf a y.f0.length hy h0 h1
  have hs : Ev (fun _ : Nat => laws_szLinkS.f y.f0 a) r := Ev.flat hr
  unfold laws_szCandidate.f
  by_cases c : r < 0
  · exact ⟨-1, Ev.bind hs (Ev.pos c (Ev.now _)), by omega, by omega, fun h => by omega⟩
  · exact ⟨r, Ev.bind hs (Ev.neg c (Ev.now _)), h1, h2, h3⟩
theorem szCandS_ev (xs : List LCd) (hn : xs.length ≤ maxLen) (hy : ∀ y ∈ xs, y.f0.length ≤ maxLen) (a : Int) (h0 : 0 ≤ a) (h1 : a ≤ 1048576) :
    ∃ r, Ev (fun k => laws_szCandidateS.f k xs a) r ∧ -1 ≤ r ∧ r ≤ a ∧ (0 ≤ r → xs.length ≤ 1048576 ∧ ∀ y ∈ xs, y.f0.length ≤ 1048576) :=
  sz_slice (fun k a => laws_szCandidateS.f k xs a) (fun k left i => laws_szCandidateS.l0 k xs left i) xs (fun y => y.f0.length ≤ 1048576) hn (fun _ _ => rfl)
    (fun hl left h0 h1 => sz_loop (fun k left i => laws_szCandidateS.l0 k xs left i) (fun _ (y : LCd) left => laws_szCandidate.f y.f0 left) xs z115 (fun y => y.f0.length ≤ 1048576) hl (fun k left i => by rw [laws_szCandidateS.l0.eq_2, show rd_T115 xs (i : Int) = xs.getD i z115 from rfl]) (fun y hm left h0 h1 => szCand_ev y (hy y hm) left h0 h1) xs.length 0 left (by omega) h0 h1) a h0 h1
theorem toLinkS_ev (xs : List LLk) (hn : xs.length ≤ 1048576) : Ev (fun k => laws_toLinkS.f k xs) (xs.map toLk) := by
  unfold laws_toLinkS.f
  refine Ev.pos (by omega) (Ev.pos (by omega) ?_)
  rw [Int.toNat_natCast]
  exact to_loop (fun k ys i => laws_toLinkS.l0 k xs ys i) (fun _ y => laws_toLink.f y.f0 y.f1) (fun t => (⟨t.1, t.2⟩ : S161)) (fun y => (y.f0, y.f1)) xs z199 (by omega) (fun k ys i => laws_toLinkS.l0.eq_2 _ _ _ _)
    (fun y _ => Ev.flat (by rfl)) xs.length 0 (List.replicate xs.length z161) (by omega) (by rw [List.length_replicate]) rfl
theorem toCandS_ev (xs : List LCd) (hn : xs.length ≤ 1048576) (hy : ∀ y ∈ xs, y.f0.length ≤ 1048576) : Ev (fun k => laws_toCandidateS.f k xs) (xs.map toCd) := by
  unfold laws_toCandidateS.f
  refine Ev.pos (by omega) (Ev.pos (by omega) ?_)
  rw [Int.toNat_natCast]
  exact to_loop (fun k ys i => laws_toCandidateS.l0 k xs ys i) (fun k y => laws_toCandidate.f k y.f0) (fun t => (⟨t⟩ : ICd)) (fun y => y.f0.map toLk) xs z115 (by omega) (fun k ys i => laws_toCandidateS.l0.eq_2 _ _ _ _)
    (fun y hm => Ev.bind (toLinkS_ev y.f0 (hy y hm)) (Ev.now _)) xs.length 0 (List.replicate xs.length z119) (by omega) (by rw [List.length_replicate]) rfl
theorem eqLink_ev (a b : S161) : Ev (fun _ => laws_eqLink.f a.f0 a.f1 b.f0 b.f1) (decide (a = b)) := by
  refine Ev.flat ?_
  unfold laws_eqLink.f
  obtain ⟨a0, a1⟩ := a
  obtain ⟨b0, b1⟩ := b
  by_cases h : a0 = b0 <;> by_cases h' : a1 = b1 <;> simp [h, h']
theorem eqLinkS_ev (xs ys : List (S161)) (hn : xs.length ≤ 4611686018427387904) : Ev (fun k => laws_eqLinkS.f k xs ys) (decide (xs = ys)) :=
  eq_slice _ (fun k i => laws_eqLinkS.l0 k xs ys i) xs ys (fun _ => rfl)
    (fun e => eq_loop _ (fun _ a b => laws_eqLink.f a.f0 a.f1 b.f0 b.f1) xs ys z161 e hn (fun k i => laws_eqLinkS.l0.eq_2 _ _ _ _) (fun a _ b _ => eqLink_ev a b) xs.length 0 (by omega))
theorem eqCand_ev (a b : ICd) (hn : a.f0.length ≤ 4611686018427387904) : Ev (fun k => laws_eqCandidate.f k a.f0 b.f0) (decide (a = b)) := by
  unfold laws_eqCandidate.f
  refine Ev.bind (eqLinkS_ev _ _ hn) ?_
  obtain ⟨a0⟩ := a
  obtain ⟨b0⟩ := b
  by_cases c : a0 = b0
  · exact Ev.pos (decide_eq_true c) (Ev.is (decide_eq_true (by rw [c])).symm)
  · exact Ev.neg (by simpa using c) (Ev.is (decide_eq_false (fun h => c (by injection h))).symm)
theorem eqCandS_ev (xs ys : List ICd) (hn : xs.length ≤ 4611686018427387904) (hy : ∀ y ∈ xs, y.f0.length ≤ 4611686018427387904) : Ev (fun k => laws_eqCandidateS.f k xs ys) (decide (xs = ys)) :=
  eq_slice _ (fun k i => laws_eqCandidateS.l0 k xs ys i) xs ys (fun _ => rfl)
    (fun e => eq_loop _ (fun k a b => laws_eqCandidate.f k a.f0 b.f0) xs ys z119 e hn (fun k i => laws_eqCandidateS.l0.eq_2 _ _ _ _) (fun a ha b _ => eqCand_ev a b (hy a ha)) xs.length 0 (by omega))
def sp : ByteArray := ⟨#[32]⟩
def accum : List ByteArray → ByteArray → ByteArray
  | [], s => s
  | x :: xs, s => accum xs ((s ++ sp) ++ x)
theorem accum_data : ∀ (xs : List ByteArray) (s : ByteArray), (accum xs s).data.toList = s.data.toList ++ Lib.joinTail [32] (xs.map (·.data.toList))
  | [], s => by simp [accum, Lib.joinTail]
  | x :: xs, s => by
    rw [accum, accum_data xs]
    simp [Lib.joinTail, sp, List.append_assoc]
def allTo (xs : List ByteArray) : ByteArray := match xs with
  | [] => ⟨#[]⟩
  | x :: r => accum r x
theorem joined_eq (xs : List ByteArray) : Go.Proofs.Ytcebnmagigadpaa.Seq.joined xs sp = allTo xs := by
  apply Go.WideShapes.bytes_inj
  unfold Go.Proofs.Ytcebnmagigadpaa.Seq.joined
  cases xs with
  | nil => simp [allTo, Lib.join_nil]
  | cons x r =>
    show (Lib.join ((x :: r).map (·.data.toList)) sp.data.toList) = _
    rw [List.map_cons, Lib.join_cons, allTo, accum_data]
    rfl
theorem accum_size : ∀ (xs : List ByteArray) (s : ByteArray) (m : Nat), (∀ x ∈ xs, x.size ≤ m) → (accum xs s).size ≤ s.size + (m + 1) * xs.length
  | [], s, m, _ => by simp [accum]
  | x :: xs, s, m, h => by
    have h1 := accum_size xs ((s ++ sp) ++ x) m (fun y hy => h y (List.mem_cons_of_mem _ hy))
    have h2 := h x (List.mem_cons_self ..)
    have h3 : sp.size = 1 := rfl
    rw [ByteArray.size_append, ByteArray.size_append, h3] at h1
    rw [accum, List.length_cons, Nat.mul_add]
    omega
def texts (l : List ICd) : List ByteArray := l.map (fun c => fmtCand c.f0)
def fmtDer (l : List ICd) : ByteArray := if l.length ≤ 20 then finB (allTo (texts l)) else noneB
theorem specDer_end (l : List ICd) (s : ByteArray) (n : Int) : Ev (fun k => spec_FormatDerivation.j1 k l s n false) (finB s) := Ev.step (fun k => spec_FormatDerivation.j1.eq_2 _ _ _ _ _) (Ev.neg (by simp) (fin_ev s))
theorem specDer_loop (l : List ICd) (h20 : l.length ≤ 20) (hc : ∀ c ∈ l, c.f0.length ≤ 1048576 ∧ okLk c.f0) : ∀ (d i : Nat) (s : ByteArray), i + d = l.length → 0 < i → s.size ≤ 33 * i →
    Ev (fun k => spec_FormatDerivation.l0 k l s (i : Int)) (finB (accum (texts (l.drop i)) s)) := by
  intro d
  induction d with
  | zero =>
    intro i s hi h0 hs
    rw [List.drop_of_length_le (by omega)]
    exact Ev.step (fun k => spec_FormatDerivation.l0.eq_2 _ _ _ _) (Ev.neg (by omega) (specDer_end l s _))
  | succ d ih =>
    intro i s hi h0 hs
    have hlt : i < l.length := by omega
    have hm := hc _ (mem_getD l z119 i hlt)
    have hz := fmtCand_size (l.getD i z119).f0
    have h1 : (⟨#[32]⟩ : ByteArray).size = 1 := rfl
    rw [drop_cons l z119 i hlt, texts, List.map_cons, accum]
    refine Ev.step (fun k => spec_FormatDerivation.l0.eq_2 _ _ _ _) (Ev.pos (by omega) ?_)
    rw [decide_eq_true (show (l.length : Int) ≤ 20 by omega)]
    refine Ev.step (fun k => spec_FormatDerivation.j1.eq_2 _ _ _ _ _) (Ev.pos rfl (Ev.pos (by omega) (Ev.pos (by omega) (Ev.pos (by omega) (Ev.pos (by omega) ?_)))))
    rw [wrapS (n := l.length) (by omega) (by omega), show rd_T119 l (i : Int) = l.getD i z119 from rfl]
    refine Ev.bind (specFormatCandidate_ev _ hm.1 hm.2) (Ev.pos (by rw [ByteArray.size_append, h1]; omega) ?_)
    exact ih (i + 1) _ (by omega) (by omega) (by rw [ByteArray.size_append, ByteArray.size_append, h1]; omega)
theorem empty_app (x : ByteArray) : (⟨#[]⟩ : ByteArray) ++ x = x := by
  apply Go.WideShapes.bytes_inj
  simp
theorem specFormatDerivation_ev (l : List ICd) (hn : l.length ≤ 1048576) (hc : ∀ c ∈ l, c.f0.length ≤ 1048576 ∧ okLk c.f0) : Ev (fun k => spec_FormatDerivation.f k l) (fmtDer l) := by
  unfold spec_FormatDerivation.f fmtDer
  have e0 : finB ⟨#[]⟩ = noneB := rfl
  by_cases c : l.length ≤ 20
  · rw [if_pos c]
    by_cases cz : l.length = 0
    · rw [List.eq_nil_of_length_eq_zero cz]
      exact Ev.step (fun k => spec_FormatDerivation.l0.eq_2 _ _ _ _) (Ev.neg (by simp) (specDer_end _ _ _))
    · have hlt : 0 < l.length := by omega
      have hm := hc _ (mem_getD l z119 0 hlt)
      have hz := fmtCand_size (l.getD 0 z119).f0
      have h1 : (⟨#[]⟩ : ByteArray).size = 0 := rfl
      have e : allTo (texts l) = accum (texts (l.drop 1)) (fmtCand (l.getD 0 z119).f0) := by
        have := drop_cons l z119 0 hlt
        rw [List.drop_zero] at this
        rw [this, texts, List.map_cons, allTo]
        simp [texts]
      rw [e]
      refine Ev.step (fun k => spec_FormatDerivation.l0.eq_2 _ _ _ _) (Ev.pos (by omega) ?_)
      rw [decide_eq_true (show (l.length : Int) ≤ 20 by omega)]
      refine Ev.step (fun k => spec_FormatDerivation.j1.eq_2 _ _ _ _ _) (Ev.pos rfl (Ev.neg (by omega) (Ev.pos (by omega) (Ev.pos (by omega) ?_))))
      rw [show rd_T119 l 0 = l.getD 0 z119 from rfl]
      refine Ev.bind (specFormatCandidate_ev _ hm.1 hm.2) (Ev.pos (by rw [h1]; omega) ?_)
      rw [empty_app, show wrap64 (0 + 1) = ((1 : Nat) : Int) from by unfold wrap64; omega]
      exact specDer_loop l c hc (l.length - 1) 1 (fmtCand (l.getD 0 z119).f0) (by omega) (by omega) (by omega)
  · rw [if_neg c]
    refine Ev.step (fun k => spec_FormatDerivation.l0.eq_2 _ _ _ _) (Ev.pos (by omega) ?_)
    rw [decide_eq_false (show ¬ (l.length : Int) ≤ 20 by omega)]
    exact Ev.to (specDer_end l _ _) e0
theorem texts_snoc (l : List ICd) (i : Nat) (h : i < l.length) : texts (l.take (i + 1)) = texts (l.take i) ++ [fmtCand (l.getD i z119).f0] := by
  rw [take_succ' l z119 i h, texts, List.map_append]; rfl
theorem texts_len (l : List ICd) : (texts l).length = l.length := by rw [texts, List.length_map]
theorem implDer_loop (l : List ICd) (hn : l.length ≤ 1048576) (hc : ∀ c ∈ l, c.f0.length ≤ 1048576 ∧ okLk c.f0) : ∀ (d i : Nat), i + d = l.length →
    Ev (fun k => impl_FormatDerivation.l0 k (texts (l.take i)) l (l.length : Int) (i : Int)) (fmtDer l) := by
  intro d
  induction d with
  | zero =>
    intro i hi
    rw [List.take_of_length_le (by omega)]
    refine Ev.step (fun k => impl_FormatDerivation.l0.eq_2 _ _ _ _ _) (Ev.neg (by omega) (Ev.bind (a := fmtDer l) ?_ (Ev.now _)))
    have hall : (allTo (texts l)).size ≤ 33 * 1048577 := by
      have ht := texts_len l
      have hm : ∀ x ∈ texts l, x.size ≤ 32 := fun x hx => by
        obtain ⟨c, _, rfl⟩ := List.mem_map.1 hx
        exact fmtCand_size _
      generalize texts l = ts at ht hm ⊢
      cases ts with
      | nil => exact Nat.zero_le _
      | cons x r =>
        have h1 := accum_size r x 32 (fun y hy => hm y (List.mem_cons_of_mem _ hy))
        have h2 := hm x (List.mem_cons_self ..)
        rw [List.length_cons] at ht
        show (accum r x).size ≤ _
        omega
    have hj : (Lib.join ((texts l).map (·.data.toList)) sp.data.toList).length ≤ 140737488355328 := by
      have e := congrArg (fun b : ByteArray => b.data.toList.length) (joined_eq (texts l))
      have e2 : (Lib.join ((texts l).map (·.data.toList)) sp.data.toList).length = (allTo (texts l)).size := by
        have e3 : (Go.Proofs.Ytcebnmagigadpaa.Seq.joined (texts l) sp).data.toList.length = (Lib.join ((texts l).map (·.data.toList)) sp.data.toList).length := by simp [Go.Proofs.Ytcebnmagigadpaa.Seq.joined]
        rw [← e3, e]
        show (allTo (texts l)).data.toList.length = (allTo (texts l)).data.size
        rw [Array.length_toList]
      omega
    unfold impl_orNone.f fmtDer
    refine Ev.bind (a := allTo (texts l)) (Ev.flat ?_) ?_
    · unfold strings_Join.f
      rw [← joined_eq]
      exact if_pos ⟨by rw [texts_len]; omega, hj⟩
    · rw [texts_len]
      by_cases c0 : (allTo (texts l)).size = 0
      · refine Ev.pos ((empty_iff _).2 c0) (Ev.is ?_)
        unfold finB
        rw [if_pos c0]
        split <;> rfl
      · refine Ev.neg (fun h => c0 ((empty_iff _).1 h)) ?_
        unfold finB
        rw [if_neg c0]
        by_cases c : l.length ≤ 20
        · rw [if_pos c]; exact Ev.pos (by omega) (Ev.now _)
        · rw [if_neg c]; exact Ev.neg (by omega) (Ev.now _)
  | succ d ih =>
    intro i hi
    have hlt : i < l.length := by omega
    have hm := hc _ (mem_getD l z119 i hlt)
    refine Ev.step (fun k => impl_FormatDerivation.l0.eq_2 _ _ _ _ _) (Ev.pos (by omega) (Ev.pos (by omega) (Ev.pos (by omega) ?_)))
    rw [wrapS (n := l.length) (by omega) (by omega), show rd_T119 l (i : Int) = l.getD i z119 from rfl]
    refine Ev.bind (implFormatCandidate_ev _ hm.1 hm.2) (Ev.pos (by rw [texts_len, List.length_take]; omega) ?_)
    rw [← texts_snoc l i hlt]
    exact ih (i + 1) (by omega)
theorem implFormatDerivation_ev (l : List ICd) (hn : l.length ≤ 1048576) (hc : ∀ c ∈ l, c.f0.length ≤ 1048576 ∧ okLk c.f0) : Ev (fun k => impl_FormatDerivation.f k l) (fmtDer l) :=
  implDer_loop l hn hc l.length 0 (by omega)
theorem wf8 {x : Int} (h : (Lit.int .u8 x).wf = true) : 0 ≤ x ∧ x ≤ 255 := by
  have h1 : IntKind.min .u8 = 0 := by decide
  have h2 : IntKind.max .u8 = 255 := by decide
  simp only [Lit.wf, h1, h2, Bool.and_eq_true, decide_eq_true_eq] at h
  exact h
theorem FnExactFormatDerivation (l0 : List (S115)) (h0 : (l0.length ≤ maxLen ∧ ∀ y1 ∈ l0, ((y1.f0.length ≤ maxLen ∧ ∀ y2 ∈ y1.f0, ((Lit.int .u8 y2.f0).wf = true ∧ (Lit.int .u8 y2.f1).wf = true))))) : ∃ k, laws_FnExactFormatDerivation.f k l0 = some true := by
  refine Ev.rounds (g := fun k => laws_FnExactFormatDerivation.f k l0) ?_
  unfold laws_FnExactFormatDerivation.f
  obtain ⟨r, hr, hr1, hr2, hg⟩ := szCandS_ev l0 h0.1 (fun y h => (h0.2 y h).1) 1048576 (by omega) (by omega)
  refine Ev.bind hr ?_
  by_cases c : r < 0
  · exact Ev.pos c (Ev.now _)
  refine Ev.neg c ?_
  obtain ⟨hn, hy⟩ := hg (by omega)
  have hl : (l0.map toCd).length ≤ 1048576 := by rw [List.length_map]; exact hn
  have hc : ∀ c ∈ l0.map toCd, c.f0.length ≤ 1048576 ∧ okLk c.f0 := fun c h => by
    obtain ⟨z, hz, rfl⟩ := List.mem_map.1 h
    refine ⟨?_, fun x hx => ?_⟩
    · show (z.f0.map toLk).length ≤ _
      rw [List.length_map]; exact hy z hz
    · obtain ⟨y, hy2, rfl⟩ := List.mem_map.1 (show x ∈ z.f0.map toLk from hx)
      have := (h0.2 z hz).2 y hy2
      exact ⟨wf8 this.1, wf8 this.2⟩
  have t0 := toCandS_ev l0 hn hy
  refine Ev.bind t0 (Ev.bind (specFormatDerivation_ev _ hl hc) (Ev.bind t0 (Ev.bind (implFormatDerivation_ev _ hl hc) (Ev.pos rfl ?_))))
  exact Ev.bind t0 (Ev.bind (eqCandS_ev _ _ (by omega) (fun y h => by have := (hc y h).1; omega)) (Ev.pos (by simp) (Ev.now _)))
end Go.Proofs.Ytcebnmagigadpaa.Pure
