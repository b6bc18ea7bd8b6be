/- What comes in, read as kinds: a type's cells, wherever they read as data, hold a value of the kind, and what is good of it. Conditions: none beyond each lemma's own. -/
import Derived.Test.YtkddpilambnicaaGreatWMore
import Derived.ChangeArms
import Derived.ChangeSlices
import Derived.WideShapes
import Derived.DataElems
import Derived.RowKit
import Derived.ChangeMaps5
set_option linter.unusedVariables false
namespace Go.Proofs.YtkddpilambnicaaGreat.Opens
open Go.RowKit Go.WideShapes Go.Proofs.YtkddpilambnicaaGreatW.PrintWords

structure Opens (P : Program) (t : TypeId) {α : Type} (d : Kd α) (G : α → Prop) : Prop where
  of : ∀ {H : Type} (enc : TypeId × Value → H) (w : World) (fuel : Nat) (cs : List Value) (x : DataW H × List MemPlace),
    DataW.trod enc P w 0 (fun _ => true) true fuel t cs = some x → ∃ a, d.K w a cs ∧ G a

theorem opens_int {P : Program} {t : TypeId} {k : IntKind} (h : P.underlying t = some (.int k)) : Opens P t (Kd.int k) (fun x => (Lit.int k x).wf = true) := by
  refine ⟨fun {H} enc w fuel cs x hx => ?_⟩
  obtain ⟨n, rfl, _, hw⟩ := DataW.trod_int h hx
  exact ⟨n, rfl, hw⟩
theorem opens_string {P : Program} {t : TypeId} (h : P.underlying t = some .string) : Opens P t Kd.string (fun s => s.size ≤ maxLen) := by
  refine ⟨fun {H} enc w fuel cs x hx => ?_⟩
  obtain ⟨s, rfl, _, hw⟩ := DataW.trod_string h hx
  exact ⟨s, rfl, hw⟩

theorem rows_up {α : Type} {d : Kd α} {G : α → Prop} {w : World} {a : Addr} {len : Nat}
    (each : ∀ i, i < len → ∃ y c, c.length = d.sz ∧ d.K w y c ∧ G y ∧ ∀ j u, c[j]? = some u → w.cell? (a.add (i * d.sz + j)) = some u) :
    ∀ m, m ≤ len → ∃ ys : List α, ys.length = m ∧ (∀ y ∈ ys, G y) ∧ ∀ j p, ys[j]? = some p → ∃ c, c.length = d.sz ∧ d.K w p c ∧ ∀ i u, c[i]? = some u → w.cell? (a.add (j * d.sz + i)) = some u := by
  intro m
  induction m with
  | zero => exact fun _ => ⟨[], rfl, (fun _ h => nomatch h), (fun _ _ h => by simp at h)⟩
  | succ m ih =>
    intro hm
    obtain ⟨ys, hl, hg, hr⟩ := ih (by omega)
    obtain ⟨y, c, hc, hK, hG, hcell⟩ := each m (by omega)
    refine ⟨ys ++ [y], by simp [hl], ?_, ?_⟩
    · intro z hz
      rcases List.mem_append.1 hz with hz | hz
      · exact hg z hz
      · rw [List.mem_singleton.1 hz]; exact hG
    · intro j p hj
      by_cases h : j < ys.length
      · rw [List.getElem?_append_left h] at hj
        exact hr j p hj
      · have hlt := (List.getElem?_eq_some_iff.1 hj).1
        simp only [List.length_append, List.length_singleton] at hlt
        have e : j = m := by omega
        subst e
        rw [List.getElem?_append_right (by omega), hl, Nat.sub_self] at hj
        simp only [List.getElem?_cons_zero, Option.some.injEq] at hj
        subst hj
        exact ⟨c, hc, hK, hcell⟩

theorem opens_slice {P : Program} {t e : TypeId} {α : Type} {d : Kd α} {G : α → Prop} (h : P.underlying t = some (.slice e)) (hs : P.cellsOf e = d.sz) (he : Opens P e d G) :
    Opens P t (Kd.slice e d) (fun xs => xs.length ≤ maxLen ∧ ∀ y ∈ xs, G y) := by
  refine ⟨fun {H} enc w fuel cs x hx => ?_⟩
  rcases DataW.trod_slice h hx with ⟨rfl, _⟩ | ⟨a, len, cap, elems, rest, n, _, rfl, _, hb, hl, hm, hlen, hel, _, _⟩
  · exact ⟨[], ⟨none, 0, rfl, Nat.le_refl _, ⟨rfl, by simp, fun h => by simp at h⟩⟩, by simp, fun _ h => by cases h⟩
  · have each : ∀ i, i < len → ∃ y c, c.length = d.sz ∧ d.K w y c ∧ G y ∧ ∀ j u, c[j]? = some u → w.cell? (a.add (i * d.sz + j)) = some u := by
      intro i hi
      have h1 := hel i hi
      rw [List.getElem?_eq_getElem (by omega), Option.bind_eq_some_iff] at h1
      obtain ⟨c, hc, hd⟩ := h1
      obtain ⟨y, hK, hG⟩ := he.of enc w n c _ hd
      rw [hs] at hc
      obtain ⟨_, hcl, hcc⟩ := World.cells?_some hc
      refine ⟨y, c, hcl, hK, hG, fun j u hu => ?_⟩
      have hj : j < d.sz := by rw [← hcl]; exact (List.getElem?_eq_some_iff.1 hu).1
      rw [← Addr.add_add, hcc j hj, hu]
    obtain ⟨ys, hyl, hyg, hyr⟩ := rows_up each len (Nat.le_refl _)
    have hmax : len ≤ 9223372036854775807 := by unfold maxLen at hm; omega
    refine ⟨ys, ⟨some a, cap, by rw [hyl], by omega, ⟨rfl, by omega, fun _ => ⟨a, rfl, hyr⟩⟩⟩, by omega, hyg⟩

structure OpensF (P : Program) (fs : List Field) (off : Nat) {α : Type} (d : Kd α) (G : α → Prop) : Prop where
  of : ∀ {H : Type} (enc : TypeId × Value → H) (w : World) (n : Nat) (cs : List Value) (xs : List (DataW H × List MemPlace)), cs.length = off + d.sz → xs.length = fs.length →
    (∀ (i : Nat) (f : Field), fs[i]? = some f → DataW.trod enc P w 0 (fun _ => true) true n f.type ((cs.drop f.offset).take (P.cellsOf f.type)) = xs[i]?) → ∃ a, d.K w a (cs.drop off) ∧ G a
theorem opensF_one {P : Program} {f : Field} {off : Nat} {α : Type} {d : Kd α} {G : α → Prop} (ho : f.offset = off) (hs : P.cellsOf f.type = d.sz) (h : Opens P f.type d G) : OpensF P [f] off d G := by
  refine ⟨fun {H} enc w n cs xs hc hx hf => ?_⟩
  have h0 := hf 0 f rfl
  rw [List.getElem?_eq_getElem (by simp at hx; omega), ho, hs, List.take_of_length_le (by rw [List.length_drop]; omega)] at h0
  exact h.of enc w n _ _ h0
theorem opensF_cons {P : Program} {f : Field} {fs : List Field} {off : Nat} {α β : Type} {a : Kd α} {b : Kd β} {G : α → Prop} {G' : β → Prop} (ho : f.offset = off) (hs : P.cellsOf f.type = a.sz) (h : Opens P f.type a G) (hr : OpensF P fs (off + a.sz) b G') :
    OpensF P (f :: fs) off (Kd.pair a b) (fun p => G p.1 ∧ G' p.2) := by
  refine ⟨fun {H} enc w n cs xs hc hx hf => ?_⟩
  have hc' : cs.length = off + a.sz + b.sz := by rw [hc]; show off + (a.sz + b.sz) = _; omega
  have h0 := hf 0 f rfl
  cases xs with
  | nil => simp at hx
  | cons x xs =>
    rw [List.getElem?_cons_zero, ho, hs] at h0
    obtain ⟨y, hK, hG⟩ := h.of enc w n _ _ h0
    obtain ⟨z, hK', hG'⟩ := hr.of enc w n cs xs hc' (by simpa using hx) (fun i g hg => by
      have := hf (i + 1) g (by simpa using hg)
      simpa using this)
    refine ⟨(y, z), ⟨_, _, ?_, hK, hK'⟩, hG, hG'⟩
    rw [← List.drop_drop, List.take_append_drop]
theorem opens_struct {P : Program} {t : TypeId} {fs : Array Field} {α β : Type} {d : Kd α} {G : α → Prop} {D : Kd β} {G' : β → Prop} (h : P.underlying t = some (.struct fs)) (hs : P.cellsOf t = d.sz) (hf : OpensF P fs.toList 0 d G) (f : β → α) (g : α → β) (hfg : ∀ a, f (g a) = a)
    (hD : ∀ w x cs, d.K w (f x) cs → D.K w x cs) (hG' : ∀ b, G (f b) → G' b) : Opens P t D G' := by
  refine ⟨fun {H} enc w fuel cs x hx => ?_⟩
  obtain ⟨xs, n, _, _, hl, hxl, hel⟩ := DataW.trod_struct h hx
  obtain ⟨a, hK, hG⟩ := hf.of enc w n cs xs (by rw [hl, hs]; omega) (by rw [hxl]; simp) (fun i f' hf' => hel i f' (by simpa using hf'))
  refine ⟨g a, hD _ _ _ ?_, hG' _ ?_⟩
  · rw [hfg]; exact hK
  · rw [hfg]; exact hG

theorem opens_fields {P : Program} {t : TypeId} {fs : Array Field} {α : Type} {d : Kd α} {G : α → Prop} {G' : α → Prop} (h : P.underlying t = some (.struct fs)) (hs : P.cellsOf t = d.sz) (hf : OpensF P fs.toList 0 d G) (hG' : ∀ b, G b → G' b) : Opens P t d G' := by
  refine ⟨fun {H} enc w fuel cs x hx => ?_⟩
  obtain ⟨xs, n, _, _, hl, hxl, hel⟩ := DataW.trod_struct h hx
  obtain ⟨a, hK, hG⟩ := hf.of enc w n cs xs (by rw [hl, hs]; omega) (by rw [hxl]; simp) (fun i f' hf' => hel i f' (by simpa using hf'))
  exact ⟨a, hK, hG' _ hG⟩

/-! an argument -/
theorem arg_struct {H : Type} {enc : TypeId × Value → H} {P : Program} {W : World} {r : Reach} {b0 : Nat} {t : TypeId} {fs : Array Field} {α : Type} {d : Kd α} {G : α → Prop} {v : Value} {dd : DataW H} {ps : List MemPlace} (h : P.underlying t = some (.struct fs)) (hO : Opens P t d G)
    (hval : Value.okWide P W r b0 t v) (hd : DataW.Trod enc P W 0 (fun _ => true) true t v dd ps) : ∃ (cs : List Value) (x : α), v = .agg cs.toArray ∧ d.K W x cs ∧ G x := by
  obtain ⟨cs, rfl, _⟩ := okWide_struct h hval
  obtain ⟨fuel, hf⟩ := hd
  obtain ⟨x, hK, hG⟩ := hO.of enc W fuel _ _ hf
  exact ⟨cs.toList, x, by simp, hK, hG⟩
end Go.Proofs.YtkddpilambnicaaGreat.Opens
