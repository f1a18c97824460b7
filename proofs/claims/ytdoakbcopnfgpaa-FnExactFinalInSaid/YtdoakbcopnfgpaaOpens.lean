/-
What the statements' arguments read as: cells that read as data hold a value of the print's kind, with whole numbers in their kind's range.
Conditions: none beyond each lemma's own premises.
-/
import Derived.Test.YtdoakbcopnfgpaaWords
import Derived.ChangeArms
import Derived.ChangeSame
import Derived.Deep.Strs
import Derived.Deep.Slices
import Derived.WideShapes
namespace Go.Proofs.Ytdoakbcopnfgpaa.Opens
open Go.RowKit Go.ChangeShapes Go.WideShapes Go.Deep Go.Proofs.YtdoakbcopnfgpaaW.PrintWords
set_option linter.unusedVariables false

/-- Cells that read as data at type t hold a value of kind d that has Q. -/
def Opens {α : Type} (P : Program) (t : TypeId) (d : Kd α) (Q : α → Prop) : Prop :=
  ∀ (H : Type) (enc : TypeId × Value → H) (w : World) (fuel : Nat) (cs : List Value) (x : DataW H × List MemPlace),
    DataW.trod enc P w 0 (fun _ => true) true fuel t cs = some x → ∃ a, d.K w a cs ∧ Q a

theorem Opens.int {P : Program} {t : TypeId} (k : IntKind) (ht : P.underlying t = some (.int k)) : Opens P t (Kd.int k) (fun x => (Lit.int k x).wf = true) := fun H enc w fuel cs x h => by
  obtain ⟨n, rfl, rfl, hw⟩ := DataW.trod_int ht h
  exact ⟨n, rfl, hw⟩

theorem Opens.slice {α : Type} {P : Program} {t e : TypeId} {d : Kd α} {Q : α → Prop} (ht : P.underlying t = some (.slice e)) (hd : Opens P e d Q) (hs : P.cellsOf e = d.sz) :
    Opens P t (Kd.slice e d) (fun l => ∀ x ∈ l, Q x) := fun H enc w fuel cs x h => by
  rcases open_slice ht h with ⟨rfl, _⟩ | ⟨a, len, cap, m, n, D, Pl, rfl, hb, hl, hm, hmm, _, hx⟩
  · exact ⟨[], ⟨none, 0, rfl, Nat.le_refl _, rfl, by simp, fun h => absurd h (Nat.lt_irrefl 0)⟩, fun x hx => by cases hx⟩
  · have hml : len ≤ m := by rw [hmm]; split <;> omega
    have hel : ∀ i, i < len → ∃ y : α, ∃ c, d.K w y c ∧ Q y ∧ ∀ j u, c[j]? = some u → w.cell? (a.add (i * d.sz + j)) = some u := fun i hi => by
      obtain ⟨c, hc, ht'⟩ := hx i (by omega)
      obtain ⟨y, hK, hQ⟩ := hd H enc w n c _ ht'
      refine ⟨y, c, hK, hQ, fun j u hj => ?_⟩
      rw [hs] at hc
      obtain ⟨_, hlen, hcell⟩ := World.cells?_some hc
      have := hcell j (by have := (List.getElem?_eq_some_iff.1 hj).1; omega)
      rw [Go.Deep.add_add] at this
      rw [this, hj]
    have key : ∀ m', m' ≤ len → ∃ xs : List α, xs.length = m' ∧ ∀ i y, xs[i]? = some y → ∃ c, d.K w y c ∧ Q y ∧ ∀ j u, c[j]? = some u → w.cell? (a.add (i * d.sz + j)) = some u := by
      intro m'
      induction m' with
      | zero => exact fun _ => ⟨[], rfl, fun i y h => by simp at h⟩
      | succ m' ih =>
        intro hm'
        obtain ⟨xs, hxl, hxs⟩ := ih (by omega)
        obtain ⟨y, c, h1, h2, h3⟩ := hel m' (by omega)
        refine ⟨xs ++ [y], by simp [hxl], fun i z hz => ?_⟩
        rcases Nat.lt_or_ge i m' with hi | hi
        · rw [List.getElem?_append_left (by omega)] at hz
          exact hxs i z hz
        · have hi' : i = m' := by
            have := (List.getElem?_eq_some_iff.1 hz).1
            simp [hxl] at this
            omega
          subst hi'
          rw [List.getElem?_append_right (by omega), hxl, Nat.sub_self] at hz
          obtain rfl : y = z := by simpa using hz
          exact ⟨c, h1, h2, h3⟩
    have hex := key len (Nat.le_refl _)
    obtain ⟨xs, hxl, hxs⟩ := hex
    subst hxl
    refine ⟨xs, ⟨some a, cap, rfl, hl, rfl, by simp only [maxLen] at hm; omega, fun _ => ⟨a, rfl, fun j p hj => ?_⟩⟩, fun x hx => ?_⟩
    · obtain ⟨c, h1, _, h3⟩ := hxs j p hj
      exact ⟨c, d.K_len h1, h1, h3⟩
    · obtain ⟨i, hi⟩ := List.getElem?_of_mem hx
      obtain ⟨c, _, h2, _⟩ := hxs i x hi
      exact h2

theorem Opens.iso {α β : Type} {P : Program} {t : TypeId} {d : Kd α} {Q : α → Prop} (h : Opens P t d Q) (f : β → α) (g : α → β) (hfg : ∀ x, f (g x) = x) : Opens P t (Kd.iso d f) (fun b => Q (f b)) := fun H enc w fuel cs x hx => by
  obtain ⟨a, hK, hQ⟩ := h H enc w fuel cs x hx
  exact ⟨g a, (show d.K w (f (g a)) cs by rw [hfg]; exact hK), (show Q (f (g a)) by rw [hfg]; exact hQ)⟩

theorem Opens.struct1 {α : Type} {P : Program} {t : TypeId} {f0 : Field} {d0 : Kd α} {Q0 : α → Prop} (ht : P.underlying t = some (.struct #[f0])) (h0 : Opens P f0.type d0 Q0)
    (o0 : f0.offset = 0) (s0 : P.cellsOf f0.type = d0.sz) (st : P.cellsOf t = d0.sz) : Opens P t d0 Q0 := fun H enc w fuel cs x h => by
  obtain ⟨y0, n, _, hl, r0⟩ := trod_struct1 ht h
  rw [o0, s0, List.drop_zero, List.take_of_length_le (by omega)] at r0
  exact h0 H enc w n cs _ r0

theorem Opens.struct2 {α β : Type} {P : Program} {t : TypeId} {f0 f1 : Field} {d0 : Kd α} {d1 : Kd β} {Q0 : α → Prop} {Q1 : β → Prop} (ht : P.underlying t = some (.struct #[f0, f1]))
    (h0 : Opens P f0.type d0 Q0) (h1 : Opens P f1.type d1 Q1) (o0 : f0.offset = 0) (o1 : f1.offset = d0.sz) (s0 : P.cellsOf f0.type = d0.sz) (s1 : P.cellsOf f1.type = d1.sz) (st : P.cellsOf t = d0.sz + d1.sz) :
    Opens P t (Kd.pair d0 d1) (fun x => Q0 x.1 ∧ Q1 x.2) := fun H enc w fuel cs x h => by
  obtain ⟨y0, y1, n, _, hl, r0, r1⟩ := trod_struct2 ht h
  rw [o0, s0, List.drop_zero] at r0
  rw [o1, s1, List.take_of_length_le (by rw [List.length_drop]; omega)] at r1
  obtain ⟨a, ha, qa⟩ := h0 H enc w n _ _ r0
  obtain ⟨b, hb, qb⟩ := h1 H enc w n _ _ r1
  exact ⟨(a, b), ⟨_, _, (List.take_append_drop _ _).symm, ha, hb⟩, qa, qb⟩

theorem Opens.struct3 {α β γ : Type} {P : Program} {t : TypeId} {f0 f1 f2 : Field} {d0 : Kd α} {d1 : Kd β} {d2 : Kd γ} {Q0 : α → Prop} {Q1 : β → Prop} {Q2 : γ → Prop} (ht : P.underlying t = some (.struct #[f0, f1, f2]))
    (h0 : Opens P f0.type d0 Q0) (h1 : Opens P f1.type d1 Q1) (h2 : Opens P f2.type d2 Q2) (o0 : f0.offset = 0) (o1 : f1.offset = d0.sz) (o2 : f2.offset = d0.sz + d1.sz)
    (s0 : P.cellsOf f0.type = d0.sz) (s1 : P.cellsOf f1.type = d1.sz) (s2 : P.cellsOf f2.type = d2.sz) (st : P.cellsOf t = d0.sz + (d1.sz + d2.sz)) :
    Opens P t (Kd.pair d0 (Kd.pair d1 d2)) (fun x => Q0 x.1 ∧ Q1 x.2.1 ∧ Q2 x.2.2) := fun H enc w fuel cs x h => by
  obtain ⟨y0, y1, y2, n, _, hl, r0, r1, r2⟩ := trod_struct3 ht h
  rw [o0, s0, List.drop_zero] at r0
  rw [o1, s1] at r1
  rw [o2, s2, List.take_of_length_le (by rw [List.length_drop]; omega), ← List.drop_drop] at r2
  obtain ⟨a, ha, qa⟩ := h0 H enc w n _ _ r0
  obtain ⟨b, hb, qb⟩ := h1 H enc w n _ _ r1
  obtain ⟨c, hc, qc⟩ := h2 H enc w n _ _ r2
  exact ⟨(a, b, c), ⟨_, _, (List.take_append_drop _ _).symm, ha, _, _, (List.take_append_drop _ _).symm, hb, hc⟩, qa, qb, qc⟩
end Go.Proofs.Ytdoakbcopnfgpaa.Opens
