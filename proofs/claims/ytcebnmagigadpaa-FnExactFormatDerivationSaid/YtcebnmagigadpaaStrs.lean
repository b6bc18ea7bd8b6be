/- strings.Join and strings.IndexByte, read as rows. Conditions: Join's text within the model's greatest string. -/
import Derived.Test.YtcebnmagigadpaaStep
import Derived.Test.YtcebnmagigadpaaShelf
import Derived.RangeFuncBox
namespace Go.Proofs.Ytcebnmagigadpaa.Seq
open Go.RowKit Go.Shelf Go.Proofs.YtcebnmagigadpaaW.PrintWords Go.Proofs.YtcebnmagigadpaaW.PrintLast Go.Proofs.YtcebnmagigadpaaW.PrintMore

def joined (xs : List ByteArray) (sep : ByteArray) : ByteArray := ⟨(Lib.join (xs.map (·.data.toList)) sep.data.toList).toArray⟩
theorem join (A : Option Addr) (c : Nat) (xs : List ByteArray) (sep : ByteArray) (w : World) (hr : Kd.C Kd.string w A xs.length xs) (hc : xs.length ≤ c) (h1 : xs.length ≤ 140737488355328) (h2 : (Lib.join (xs.map (·.data.toList)) sep.data.toList).length ≤ 140737488355328) :
    Calls Try.prog 157 #[.slice A xs.length c, .string sep] w fun e w' => e = .returned (.string (joined xs sep)) ∧ Below w.heap.size w w' := by
  by_cases h0 : xs = []
  · subst h0
    refine (Try.strings_Join_none A c sep w).mono ?_
    rintro e w' ⟨rfl, rfl⟩
    exact ⟨rfl, Below.refl _ _⟩
  · have hp : 0 < xs.length := List.length_pos_iff.2 h0
    obtain ⟨ad, rfl, hcell⟩ := hr.2.2 hp
    have hat : ∀ (j : Nat) x, xs[j]? = some x → w.cell? (ad.add j) = some (.string x) := fun j x hj => by
      obtain ⟨cs, hl, hK, hcs⟩ := hcell j x hj
      have hK' : cs = [Value.string x] := hK
      have := hcs 0 (.string x) (by rw [hK']; rfl)
      rw [show Kd.string.sz = 1 from rfl] at this
      simpa using this
    obtain ⟨bk, o, sp⟩ := ad
    obtain ⟨x0, hx0⟩ : ∃ x, xs[0]? = some x := ⟨_, List.getElem?_eq_getElem hp⟩
    have hc0 := hat 0 x0 hx0
    simp only [Addr.add, if_pos] at hc0
    have hb : bk < w.heap.size := by
      rcases Nat.lt_or_ge bk w.heap.size with h | h
      · exact h
      · rw [World.cell?, Array.getElem?_eq_none h] at hc0; cases hc0
    have hsp : sp = none := by
      cases sp with
      | none => rfl
      | some s =>
        rw [World.cell?] at hc0
        simp only [Option.isSome_some, if_true] at hc0
        split at hc0 <;> cases hc0
    subst hsp
    refine Try.strings_Join bk o c xs sep w (fun j x hj => ?_) hb h1 hc h2
    have := hat j x hj
    unfold Addr.add at this
    by_cases hj0 : j = 0
    · subst hj0; simpa using this
    · rw [if_neg hj0] at this; exact this
end Go.Proofs.Ytcebnmagigadpaa.Seq
