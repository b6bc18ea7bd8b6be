/- The program's TotalShares and the reference's give the same number, and the argument stays. Conditions: what a slice and a string may hold at most. -/
import Derived.Test.YtpkldnbigmhblaaPFnExactTotalSharesx0
import Derived.Test.YtpkldnbigmhblaaPFnExactTotalSharesx1
import Derived.Test.YtpkldnbigmhblaaPFnExactTotalSharesx2
import Derived.Test.YtpkldnbigmhblaaKit
import Derived.WideShapes
import Derived.Laws.Strings
set_option linter.unusedVariables false
set_option linter.unusedSimpArgs false
namespace Go.Proofs.Ytpkldnbigmhblaa.Pure
open Go.RowKit Go.WideShapes Go.Proofs.Ytpkldnbigmhblaa.PFnExactTotalShares Go.Proofs.Ytpkldnbigmhblaa.Kit Go.Proofs.YtpkldnbigmhblaaW.PrintWords Go.Proofs.YtpkldnbigmhblaaW.PrintLast
abbrev LSh := S46
abbrev ISh := S47
def toSh (y : LSh) : ISh := ⟨y.f0, y.f1⟩
theorem szShareS_ev (xs : List LSh) (hn : xs.length ≤ maxLen) (hy : ∀ y ∈ xs, y.f0.size ≤ maxLen) (a : Int) (h0 : 0 ≤ a) (h1 : a ≤ 1048576) :
    ∃ r, Ev (fun k => laws_szShareS.f k xs a) r ∧ -1 ≤ r ∧ r ≤ a ∧ (0 ≤ r → xs.length ≤ 1048576 ∧ ∀ y ∈ xs, y.f0.size ≤ 1048576) :=
  sz_slice (fun k a => laws_szShareS.f k xs a) (fun k left i => laws_szShareS.l0 k xs left i) xs (fun y => y.f0.size ≤ 1048576) hn (fun _ _ => rfl)
    (fun hl left h0 h1 => sz_loop _ (fun _ y left => laws_szShare.f y.f0 y.f1 left) xs z46 _ hl (fun k left i => laws_szShareS.l0.eq_2 _ _ _ _) (fun y hm left h0 h1 => by
      obtain ⟨r, hr, h⟩ := sz_leaf left y.f0.size (hy y hm) h0 h1
      exact ⟨r, Ev.flat hr, h⟩) xs.length 0 left (by omega) h0 h1) a h0 h1
theorem toShareS_ev (xs : List LSh) (hn : xs.length ≤ 1048576) : Ev (fun k => laws_toShareS.f k xs) (xs.map toSh) := by
  unfold laws_toShareS.f
  refine Ev.pos (by omega) (Ev.pos (by omega) ?_)
  rw [Int.toNat_natCast]
  exact to_loop (fun k ys i => laws_toShareS.l0 k xs ys i) (fun _ y => laws_toShare.f y.f0 y.f1) (fun t => (⟨t.1, t.2⟩ : ISh)) (fun y => (y.f0, y.f1)) xs z46 (by omega) (fun k ys i => laws_toShareS.l0.eq_2 _ _ _ _)
    (fun y _ => Ev.flat (by rfl)) xs.length 0 (List.replicate xs.length z47) (by omega) (by rw [List.length_replicate]) rfl
theorem ba_ext {a b : ByteArray} : a.toList = b.toList ↔ a = b := by
  constructor
  · intro h
    rw [ByteArray.toList_eq, ByteArray.toList_eq] at h
    exact bytes_inj h
  · exact fun h => by rw [h]
deriving instance DecidableEq for S47
theorem eqShare_ev (a b : ISh) : Ev (fun _ => laws_eqShare.f a.f0 a.f1 b.f0 b.f1) (decide (a = b)) := by
  refine Ev.flat ?_
  unfold laws_eqShare.f
  obtain ⟨a0, a1⟩ := a
  obtain ⟨b0, b1⟩ := b
  simp only [ba_ext]
  by_cases h : a0 = b0 <;> by_cases h' : a1 = b1 <;> simp [h, h']
theorem eqShareS_ev (xs ys : List ISh) (hn : xs.length ≤ 4611686018427387904) : Ev (fun k => laws_eqShareS.f k xs ys) (decide (xs = ys)) :=
  eq_slice _ (fun k i => laws_eqShareS.l0 k xs ys i) xs ys (fun _ => rfl)
    (fun e => eq_loop _ (fun _ a b => laws_eqShare.f a.f0 a.f1 b.f0 b.f1) xs ys z47 e hn (fun k i => laws_eqShareS.l0.eq_2 _ _ _ _) (fun a _ b _ => eqShare_ev a b) xs.length 0 (by omega))
def clampN (n : Int) : Int := mx 0 (mn 120 n)
theorem mn_comm (a b : Int) : mn a b = mn b a := by unfold mn; split <;> split <;> omega
def sumSh : List ISh → Int → Int
  | [], acc => acc
  | x :: xs, acc => sumSh xs (wrap64 (acc + clampN x.f1))
def totalSh (xs : List ISh) : Int := if xs.length ≤ 120 then sumSh xs 0 else 0
theorem specTotal_loop (xs : List ISh) (hn : xs.length ≤ 120) : ∀ (d i : Nat) (acc : Int), i + d = xs.length → Ev (fun k => spec_TotalShares.l0 k xs acc (i : Int)) (sumSh (xs.drop i) acc) := by
  intro d
  induction d with
  | zero =>
    intro i acc hi
    refine Ev.step (fun k => spec_TotalShares.l0.eq_2 _ _ _ _) (Ev.neg (by omega) (Ev.is ?_))
    rw [List.drop_of_length_le (by omega)]; rfl
  | succ d ih =>
    intro i acc hi
    have hlt : i < xs.length := by omega
    refine Ev.step (fun k => spec_TotalShares.l0.eq_2 _ _ _ _) (Ev.pos (by omega) (Ev.pos (by omega) (Ev.pos (by omega) ?_)))
    rw [wrapS (Nat.le_of_lt hlt) (by omega), drop_cons xs z47 i hlt, sumSh]
    exact ih (i + 1) _ (by omega)
theorem implTotal_loop (xs : List ISh) (hn : xs.length ≤ 4611686018427387904) : ∀ (d i : Nat) (acc : Int), i + d = xs.length →
    Ev (fun k => impl_TotalShares.l0 k xs acc xs (xs.length : Int) (i : Int)) (if xs.length ≤ 120 then sumSh (xs.drop i) acc else 0) := by
  intro d
  induction d with
  | zero =>
    intro i acc hi
    refine Ev.step (fun k => impl_TotalShares.l0.eq_2 _ _ _ _ _ _) (Ev.neg (by omega) ?_)
    rw [List.drop_of_length_le (by omega)]
    by_cases h : xs.length ≤ 120
    · rw [if_pos h]; exact Ev.neg (by omega) (Ev.now _)
    · rw [if_neg h]; exact Ev.pos (by omega) (Ev.now _)
  | succ d ih =>
    intro i acc hi
    have hlt : i < xs.length := by omega
    refine Ev.step (fun k => impl_TotalShares.l0.eq_2 _ _ _ _ _ _) (Ev.pos (by omega) (Ev.pos (by omega) (Ev.pos (by omega) ?_)))
    rw [wrapS (Nat.le_of_lt hlt) hn, drop_cons xs z47 i hlt, sumSh, mn_comm]
    exact ih (i + 1) _ (by omega)
theorem specTotal_ev (xs : List ISh) (hn : xs.length ≤ 4611686018427387904) : Ev (fun k => spec_TotalShares.f k xs) (totalSh xs) := by
  unfold spec_TotalShares.f totalSh
  by_cases h : xs.length ≤ 120
  · rw [if_pos h]; exact specTotal_loop xs h xs.length 0 0 (by omega)
  · rw [if_neg h]
    refine Ev.step (fun k => spec_TotalShares.l0.eq_2 _ _ _ _) (Ev.pos (by omega) (Ev.neg (by omega) (Ev.now _)))
theorem FnExactTotalShares (l0 : List LSh) (h0 : (l0.length ≤ maxLen ∧ ∀ y1 ∈ l0, (y1.f0.size ≤ maxLen ∧ (Lit.int .i64 y1.f1).wf = true))) : ∃ k, laws_FnExactTotalShares.f k l0 = some true := by
  refine Ev.rounds (g := fun k => laws_FnExactTotalShares.f k l0) ?_
  unfold laws_FnExactTotalShares.f
  obtain ⟨r, hr, hr1, _, hg⟩ := szShareS_ev l0 h0.1 (fun y hy => (h0.2 y hy).1) 1048576 (by omega) (by omega)
  refine Ev.bind hr ?_
  by_cases c : r < 0
  · exact Ev.pos c (Ev.now _)
  refine Ev.neg c ?_
  obtain ⟨hn, _⟩ := hg (by omega)
  have hm : (l0.map toSh).length ≤ 4611686018427387904 := by rw [List.length_map]; omega
  refine Ev.bind (toShareS_ev l0 hn) (Ev.bind (specTotal_ev _ hm) (Ev.bind (toShareS_ev l0 hn) (Ev.bind (implTotal_loop _ hm _ 0 0 (Nat.zero_add _)) (Ev.pos rfl ?_))))
  exact Ev.bind (toShareS_ev l0 hn) (Ev.bind (eqShareS_ev _ _ hm) (Ev.pos (by simp) (Ev.now _)))
end Go.Proofs.Ytpkldnbigmhblaa.Pure
