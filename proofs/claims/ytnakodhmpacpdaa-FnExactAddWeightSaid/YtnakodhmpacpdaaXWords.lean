/-
Words for functions that are handed a closure: what 'is there one of which p says yes' comes to, where p may fail.
Conditions: none beyond each lemma's own premises.
-/
import Derived.Test.YtnakodhmpacpdaaWWords
namespace Go.Proofs.Ytnakodhmpacpdaa
open Go.RowKit Go.Proofs.YtnakodhmpacpdaaW.PrintWords
set_option linter.unusedVariables false

/-- Is there one of which p says yes? It asks them in their order, and no more of them than it must. -/
def anyO {α : Type} (p : α → Option Bool) : List α → Option Bool
  | [] => some false
  | x :: xs => (p x).bind fun b => if b = true then some true else anyO p xs
/-- Where is the first of which p says yes? -/
def idxO {α : Type} (p : α → Option Bool) : Int → List α → Option Int
  | _, [] => some (-1)
  | i, x :: xs => (p x).bind fun b => if b = true then some i else idxO p (i + 1) xs

theorem anyO_mono {α : Type} {p q : α → Option Bool} (h : ∀ x, LeO (p x) (q x)) : ∀ l, LeO (anyO p l) (anyO q l)
  | [] => LeO.refl _
  | x :: xs => by
    unfold anyO
    exact LeO.bind (h x) (fun b => LeO.ite (LeO.refl _) (anyO_mono h xs))

theorem idxO_of_anyO {α : Type} {p : α → Option Bool} : ∀ {l : List α} {r : Bool} (i : Int), 0 ≤ i → anyO p l = some r → ∃ j, idxO p i l = some j ∧ r = decide (0 ≤ j) := by
  intro l
  induction l with
  | nil =>
    intro r i hi h
    obtain rfl : false = r := by simpa [anyO] using h
    exact ⟨-1, rfl, rfl⟩
  | cons x xs ih =>
    intro r i hi h
    unfold anyO at h
    obtain ⟨b, hb, h⟩ := Option.bind_eq_some_iff.mp h
    cases b with
    | true =>
      obtain rfl : true = r := by simpa using h
      exact ⟨i, by unfold idxO; rw [hb]; rfl, (decide_eq_true hi).symm⟩
    | false =>
      obtain ⟨j, hj, hr⟩ := ih (i + 1) (by omega) (by simpa using h)
      exact ⟨j, by unfold idxO; rw [hb]; simpa using hj, hr⟩

/-- What is asked of a closure: of each x it says what p says, and leaves all that lay in w as it was. -/
def PredO {α : Type} (P : Program) (g : Nat) (lb : Array Value) (enc : α → Value) (p : α → Option Bool) (w : World) : Prop :=
  ∀ (W : World) (x : α) (r : Bool), Below w.heap.size w W → p x = some r → Calls P g (#[enc x] ++ lb) W fun e w' => e = .returned (.bool r) ∧ Below w.heap.size w w'

theorem anyO_total {α : Type} {p : α → Option Bool} {q : α → Bool} : ∀ {l : List α}, (∀ x ∈ l, p x = some (q x)) → anyO p l = some (l.any q)
  | [], _ => rfl
  | x :: xs, h => by
    unfold anyO
    rw [h x (by simp), List.any_cons]
    have := anyO_total (l := xs) (fun y hy => h y (by simp [hy]))
    cases q x <;> simp [this]

end Go.Proofs.Ytnakodhmpacpdaa
