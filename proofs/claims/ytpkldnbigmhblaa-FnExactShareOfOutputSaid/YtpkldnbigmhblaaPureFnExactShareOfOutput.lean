/- The program's ShareOfOutput and the reference's give the same number, and the arguments stay. Conditions: what a slice and a string may hold at most. -/
import Derived.Test.YtpkldnbigmhblaaPFnExactShareOfOutputx0
import Derived.Test.YtpkldnbigmhblaaPFnExactShareOfOutputx1
import Derived.Test.YtpkldnbigmhblaaPFnExactShareOfOutputx2
import Derived.Test.YtpkldnbigmhblaaKit
import Derived.WideShapes
import Derived.Laws.Strings
set_option linter.unusedVariables false
set_option linter.unusedSimpArgs false
namespace Go.Proofs.Ytpkldnbigmhblaa.Pure
open Go.RowKit Go.WideShapes Go.Proofs.Ytpkldnbigmhblaa.PFnExactShareOfOutput Go.Proofs.Ytpkldnbigmhblaa.Kit Go.Proofs.YtpkldnbigmhblaaW.PrintWords Go.Proofs.YtpkldnbigmhblaaW.PrintLast
abbrev LSh := S46
abbrev ISh := S47
def toSh (y : LSh) : ISh := ⟨y.f0, y.f1⟩
theorem szShareS_ev (xs : List LSh) (hn : xs.length ≤ maxLen) (hy : ∀ y ∈ xs, y.f0.size ≤ maxLen) (a : Int) (h0 : 0 ≤ a) (h1 : a ≤ 1048576) :
    ∃ r, Ev (fun k => laws_szShareS.f k xs a) r ∧ -1 ≤ r ∧ r ≤ a ∧ (0 ≤ r → xs.length ≤ 1048576 ∧ ∀ y ∈ xs, y.f0.size ≤ 1048576) :=
  sz_slice (fun k a => laws_szShareS.f k xs a) (fun k left i => laws_szShareS.l0 k xs left i) xs (fun y => y.f0.size ≤ 1048576) hn (fun _ _ => rfl)
    (fun hl left h0 h1 => sz_loop _ (fun _ y left => laws_szShare.f y.f0 y.f1 left) xs z46 _ hl (fun k left i => laws_szShareS.l0.eq_2 _ _ _ _) (fun y hm left h0 h1 => by
      obtain ⟨r, hr, h⟩ := sz_leaf left y.f0.size (hy y hm) h0 h1
      exact ⟨r, Ev.flat hr, h⟩) xs.length 0 left (by omega) h0 h1) a h0 h1
theorem toShareS_ev (xs : List LSh) (hn : xs.length ≤ 1048576) : Ev (fun k => laws_toShareS.f k xs) (xs.map toSh) := by
  unfold laws_toShareS.f
  refine Ev.pos (by omega) (Ev.pos (by omega) ?_)
  rw [Int.toNat_natCast]
  exact to_loop (fun k ys i => laws_toShareS.l0 k xs ys i) (fun _ y => laws_toShare.f y.f0 y.f1) (fun t => (⟨t.1, t.2⟩ : ISh)) (fun y => (y.f0, y.f1)) xs z46 (by omega) (fun k ys i => laws_toShareS.l0.eq_2 _ _ _ _)
    (fun y _ => Ev.flat (by rfl)) xs.length 0 (List.replicate xs.length z47) (by omega) (by rw [List.length_replicate]) rfl
theorem ba_ext {a b : ByteArray} : a.toList = b.toList ↔ a = b := by
  constructor
  · intro h
    rw [ByteArray.toList_eq, ByteArray.toList_eq] at h
    exact bytes_inj h
  · exact fun h => by rw [h]
deriving instance DecidableEq for S47
theorem eqShare_ev (a b : ISh) : Ev (fun _ => laws_eqShare.f a.f0 a.f1 b.f0 b.f1) (decide (a = b)) := by
  refine Ev.flat ?_
  unfold laws_eqShare.f
  obtain ⟨a0, a1⟩ := a
  obtain ⟨b0, b1⟩ := b
  simp only [ba_ext]
  by_cases h : a0 = b0 <;> by_cases h' : a1 = b1 <;> simp [h, h']
theorem eqShareS_ev (xs ys : List ISh) (hn : xs.length ≤ 4611686018427387904) : Ev (fun k => laws_eqShareS.f k xs ys) (decide (xs = ys)) :=
  eq_slice _ (fun k i => laws_eqShareS.l0 k xs ys i) xs ys (fun _ => rfl)
    (fun e => eq_loop _ (fun _ a b => laws_eqShare.f a.f0 a.f1 b.f0 b.f1) xs ys z47 e hn (fun k i => laws_eqShareS.l0.eq_2 _ _ _ _) (fun a _ b _ => eqShare_ev a b) xs.length 0 (by omega))
def shareOf : List ISh → ByteArray → Int
  | [], _ => 0
  | x :: xs, o => if x.f0 = o then x.f1 else shareOf xs o
theorem specShareOf_loop (xs : List ISh) (o : ByteArray) (hn : xs.length ≤ 4611686018427387904) : ∀ (d i : Nat), i + d = xs.length → Ev (fun k => spec_ShareOfOutput.l0 k xs o (i : Int)) (shareOf (xs.drop i) o) := by
  intro d
  induction d with
  | zero =>
    intro i hi
    refine Ev.step (fun k => spec_ShareOfOutput.l0.eq_2 _ _ _ _) (Ev.neg (by omega) (Ev.is ?_))
    rw [List.drop_of_length_le (by omega)]; rfl
  | succ d ih =>
    intro i hi
    have hlt : i < xs.length := by omega
    refine Ev.step (fun k => spec_ShareOfOutput.l0.eq_2 _ _ _ _) (Ev.pos (by omega) (Ev.pos (by omega) ?_))
    rw [wrapS (Nat.le_of_lt hlt) hn, drop_cons xs z47 i hlt, shareOf, show rd_T47 xs (i : Int) = xs.getD i z47 from rfl]
    by_cases h : (xs.getD i z47).f0 = o
    · rw [if_pos h]; exact Ev.pos (ba_ext.2 h) (Ev.now _)
    · rw [if_neg h]; exact Ev.neg (fun z => h (ba_ext.1 z)) (ih (i + 1) (by omega))
theorem implShareOf_loop (xs : List ISh) (o : ByteArray) (hn : xs.length ≤ 4611686018427387904) : ∀ (d i : Nat), i + d = xs.length → Ev (fun k => impl_ShareOfOutput.l0 k o xs (xs.length : Int) (i : Int)) (shareOf (xs.drop i) o) := by
  intro d
  induction d with
  | zero =>
    intro i hi
    refine Ev.step (fun k => impl_ShareOfOutput.l0.eq_2 _ _ _ _ _) (Ev.neg (by omega) (Ev.is ?_))
    rw [List.drop_of_length_le (by omega)]; rfl
  | succ d ih =>
    intro i hi
    have hlt : i < xs.length := by omega
    refine Ev.step (fun k => impl_ShareOfOutput.l0.eq_2 _ _ _ _ _) (Ev.pos (by omega) (Ev.pos (by omega) (Ev.pos (by omega) ?_)))
    rw [wrapS (Nat.le_of_lt hlt) hn, drop_cons xs z47 i hlt, shareOf, show rd_T47 xs (i : Int) = xs.getD i z47 from rfl]
    by_cases h : (xs.getD i z47).f0 = o
    · rw [if_pos h]; exact Ev.pos (ba_ext.2 h) (Ev.now _)
    · rw [if_neg h]; exact Ev.neg (fun z => h (ba_ext.1 z)) (ih (i + 1) (by omega))
theorem FnExactShareOfOutput (l0 : List LSh) (a1 : ByteArray) (h0 : (l0.length ≤ maxLen ∧ ∀ y1 ∈ l0, (y1.f0.size ≤ maxLen ∧ (Lit.int .i64 y1.f1).wf = true))) (h1 : a1.size ≤ maxLen) : ∃ k, laws_FnExactShareOfOutput.f k l0 a1 = some true := by
  refine Ev.rounds (g := fun k => laws_FnExactShareOfOutput.f k l0 a1) ?_
  unfold laws_FnExactShareOfOutput.f
  by_cases h : (a1.size : Int) > 1048576
  · exact Ev.pos h (Ev.now _)
  refine Ev.neg h ?_
  obtain ⟨r, hr, hr1, _, hg⟩ := szShareS_ev l0 h0.1 (fun y hy => (h0.2 y hy).1) 1048576 (by omega) (by omega)
  refine Ev.bind hr ?_
  by_cases c : r < 0
  · exact Ev.pos c (Ev.now _)
  refine Ev.neg c ?_
  obtain ⟨hn, _⟩ := hg (by omega)
  have hm : (l0.map toSh).length ≤ 4611686018427387904 := by rw [List.length_map]; omega
  refine Ev.bind (toShareS_ev l0 hn) (Ev.bind (specShareOf_loop _ a1 hm _ 0 (Nat.zero_add _)) (Ev.bind (toShareS_ev l0 hn) (Ev.bind (implShareOf_loop _ a1 hm _ 0 (Nat.zero_add _)) (Ev.pos rfl ?_))))
  exact Ev.bind (toShareS_ev l0 hn) (Ev.bind (eqShareS_ev _ _ hm) (Ev.pos (by simp) (Ev.now _)))
end Go.Proofs.Ytpkldnbigmhblaa.Pure
