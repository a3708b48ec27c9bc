/- What reads as data of a type is of its kind: whole numbers, slices, structs of two and three fields, for the rows of laws whose parameters are structs. Condition: as each lemma names. -/
import Derived.ChangeArms
import Derived.ChangeSame
import Derived.Deep.Strs
import Derived.Deep.Slices
import Derived.Test.YtcafckapdgaogaaV
namespace Go.Proofs.Ytcafckapdgaogaa.O
open Go.ChangeShapes Go.WideShapes Go.Deep Go.RowKit Go.Proofs.YtcafckapdgaogaaW.PrintWords
set_option linter.unusedVariables false

def Opens {α : Type} (P : Program) (W : World) (t : TypeId) (d : Kd α) (Φ : α → Prop) : Prop :=
  ∀ (H : Type) (enc : TypeId × Value → H) (held : Bool) (n : Nat) (cs : List Value) (y : DataW H × List MemPlace), DataW.trod enc P W 0 (fun _ => true) held n t cs = some y → ∃ x, d.K W x cs ∧ Φ x
section
variable {P : Program} {W : World}
theorem opens_int {t : TypeId} {k : IntKind} (hu : P.underlying t = some (.int k)) : Opens P W t (Kd.int k) (fun x => (Lit.int k x).wf = true) := by
  intro H enc held n cs y h
  obtain ⟨x, rfl, _, hw⟩ := DataW.trod_int hu h
  exact ⟨x, rfl, hw⟩
theorem list_of {α : Type} {Q : Nat → α → Prop} : ∀ (n : Nat), (∀ i, i < n → ∃ x, Q i x) → ∃ xs : List α, xs.length = n ∧ ∀ j x, xs[j]? = some x → Q j x
  | 0, _ => ⟨[], rfl, fun j x h => by simp at h⟩
  | n + 1, h => by
    obtain ⟨xs, hl, hq⟩ := list_of n (fun i hi => h i (by omega))
    obtain ⟨x, hx⟩ := h n (by omega)
    refine ⟨xs ++ [x], by simp [hl], fun j y hy => ?_⟩
    rcases Nat.lt_or_ge j xs.length with hj | hj
    · rw [List.getElem?_append_left hj] at hy; exact hq j y hy
    · have hj' : j = n := by
        have := (List.getElem?_eq_some_iff.1 hy).1
        rw [List.length_append, List.length_singleton] at this
        omega
      subst hj'
      rw [← hl] at hy
      have e : x = y := by simpa using hy
      exact e ▸ hx
theorem opens_slice {α : Type} {t e : TypeId} {d : Kd α} {Φ : α → Prop} (hu : P.underlying t = some (.slice e)) (hs : P.cellsOf e = d.sz) (ho : Opens P W e d Φ) : Opens P W t (Kd.slice e d) (fun xs => xs.length ≤ 9223372036854775807 ∧ ∀ x ∈ xs, Φ x) := by
  intro H enc held n cs y h
  rcases open_slice hu h with ⟨rfl, _⟩ | ⟨a, len, cap, m, n', D, Pl, rfl, _, hl, hm, hmm, _, hx⟩
  · exact ⟨[], ⟨none, 0, rfl, Nat.le_refl _, rfl, by simp, fun h => absurd h (Nat.lt_irrefl 0)⟩, by simp, by simp⟩
  · have hcap : cap ≤ 9223372036854775807 := by unfold maxLen at hm; exact hm
    have hmc : m = cap := by simpa using hmm
    obtain ⟨xs, hxl, hq⟩ := list_of (α := α) (Q := fun i x => Φ x ∧ ∃ c : List Value, c.length = d.sz ∧ d.K W x c ∧ ∀ j u, c[j]? = some u → W.cell? (a.add (i * d.sz + j)) = some u) len (by
      intro i hi
      obtain ⟨cs', h1, h2⟩ := hx i (by omega)
      obtain ⟨x, hK, hP⟩ := ho H enc held n' cs' _ h2
      obtain ⟨_, h3, h4⟩ := World.cells?_some h1
      refine ⟨x, hP, cs', by rw [h3, hs], hK, fun j u hu2 => ?_⟩
      have hj : j < cs'.length := (List.getElem?_eq_some_iff.1 hu2).1
      have := h4 j (by omega)
      rw [hu2, Deep.add_add, hs] at this
      exact this)
    refine ⟨xs, ⟨some a, cap, by rw [hxl], by omega, rfl, by omega, fun _ => ⟨a, rfl, fun j p hp => (hq j p hp).2⟩⟩, by omega, fun x hx => ?_⟩
    obtain ⟨j, hj⟩ := List.getElem?_of_mem hx
    exact (hq j x hj).1
theorem opens_pair {α β : Type} {t : TypeId} {f0 f1 : Field} {a : Kd α} {b : Kd β} {Φ : α → Prop} {Ψ : β → Prop} (hu : P.underlying t = some (.struct #[f0, f1])) (ho : f0.offset = 0 ∧ f1.offset = a.sz ∧ P.cellsOf f0.type = a.sz ∧ P.cellsOf f1.type = b.sz ∧ P.cellsOf t = a.sz + b.sz)
    (h0 : Opens P W f0.type a Φ) (h1 : Opens P W f1.type b Ψ) : Opens P W t (Kd.pair a b) (fun x => Φ x.1 ∧ Ψ x.2) := by
  intro H enc held n cs y h
  obtain ⟨o0, o1, s0, s1, st⟩ := ho
  obtain ⟨y0, y1, n', _, hl, e0, e1⟩ := trod_struct2 hu h
  obtain ⟨x0, k0, p0⟩ := h0 H enc held n' _ _ e0
  obtain ⟨x1, k1, p1⟩ := h1 H enc held n' _ _ e1
  rw [o0, s0, List.drop_zero] at k0
  rw [o1, s1] at k1
  refine ⟨(x0, x1), ⟨cs.take a.sz, cs.drop a.sz, (List.take_append_drop _ _).symm, k0, ?_⟩, p0, p1⟩
  have e : (cs.drop a.sz).take b.sz = cs.drop a.sz := List.take_of_length_le (by rw [List.length_drop]; omega)
  rw [e] at k1
  exact k1
theorem opens_triple {α β γ : Type} {t : TypeId} {f0 f1 f2 : Field} {a : Kd α} {b : Kd β} {c : Kd γ} {Φ : α → Prop} {Ψ : β → Prop} {Χ : γ → Prop} (hu : P.underlying t = some (.struct #[f0, f1, f2]))
    (ho : f0.offset = 0 ∧ f1.offset = a.sz ∧ f2.offset = a.sz + b.sz ∧ P.cellsOf f0.type = a.sz ∧ P.cellsOf f1.type = b.sz ∧ P.cellsOf f2.type = c.sz ∧ P.cellsOf t = a.sz + (b.sz + c.sz))
    (h0 : Opens P W f0.type a Φ) (h1 : Opens P W f1.type b Ψ) (h2 : Opens P W f2.type c Χ) : Opens P W t (Kd.pair a (Kd.pair b c)) (fun x => Φ x.1 ∧ Ψ x.2.1 ∧ Χ x.2.2) := by
  intro H enc held n cs y h
  obtain ⟨o0, o1, o2, s0, s1, s2, st⟩ := ho
  obtain ⟨y0, y1, y2, n', _, hl, e0, e1, e2⟩ := trod_struct3 hu h
  obtain ⟨x0, k0, p0⟩ := h0 H enc held n' _ _ e0
  obtain ⟨x1, k1, p1⟩ := h1 H enc held n' _ _ e1
  obtain ⟨x2, k2, p2⟩ := h2 H enc held n' _ _ e2
  rw [o0, s0, List.drop_zero] at k0
  rw [o1, s1] at k1
  rw [o2, s2] at k2
  refine ⟨(x0, x1, x2), ⟨cs.take a.sz, cs.drop a.sz, (List.take_append_drop _ _).symm, k0, (cs.drop a.sz).take b.sz, (cs.drop a.sz).drop b.sz, (List.take_append_drop _ _).symm, k1, ?_⟩, p0, p1, p2⟩
  have e : (cs.drop (a.sz + b.sz)).take c.sz = cs.drop (a.sz + b.sz) := List.take_of_length_le (by rw [List.length_drop]; omega)
  rw [e] at k2
  rw [List.drop_drop]
  exact k2
theorem opens_iso {α β : Type} {t : TypeId} {d : Kd α} {Φ : α → Prop} {f : β → α} {g : α → β} (hg : ∀ x, f (g x) = x) (ho : Opens P W t d Φ) : Opens P W t (Kd.iso d f) (fun y => Φ (f y)) := by
  intro H enc held n cs y h
  obtain ⟨x, k, p⟩ := ho H enc held n cs y h
  exact ⟨g x, by show d.K W (f (g x)) cs; rw [hg]; exact k, by show Φ (f (g x)); rw [hg]; exact p⟩
end
end Go.Proofs.Ytcafckapdgaogaa.O
