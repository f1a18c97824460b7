/-
OneLink in plain Lean.
Conditions: none beyond each lemma's own premises.
-/
import Derived.Test.YtnakodhmpacpdaaTreeB
import Derived.Test.YtnakodhmpacpdaaQ0
import Derived.Test.YtnakodhmpacpdaaQ3
import Derived.Test.YtnakodhmpacpdaaQ6
namespace Go.Proofs.Ytnakodhmpacpdaa.Pure
open Go.RowKit Go.Proofs.Ytnakodhmpacpdaa.Q Go.Proofs.Ytnakodhmpacpdaa.Gen Go.Proofs.YtnakodhmpacpdaaW.PrintWords Go.Proofs.YtnakodhmpacpdaaW.PrintLast
set_option linter.unusedVariables false
set_option linter.unusedSimpArgs false

/-! ### OneLink -/
noncomputable def oneLinkA (t : List B) (a b : Int) : Bool × Bool :=
  if (goodT t && decide (0 ≤ a ∧ a < (t.length : Int))) = true ∧ (goodT t && decide (0 ≤ b ∧ b < (t.length : Int))) = true then (!decide (a = b) && abv t a b, true) else (false, false)

theorem specOneLink_ev (t : List B) (a b : Int) (hl : t.length ≤ 9223372036854775807) : Ev (fun k => spec_OneLink.f k t a b) (oneLinkA t a b) := by
  unfold spec_OneLink.f oneLinkA
  refine Ev.bind (specThere_ev t a hl) ?_
  cases h1 : (goodT t && decide (0 ≤ a ∧ a < (t.length : Int))) with
  | false => simp only [Bool.false_eq_true, if_false, false_and]; exact Ev.now _
  | true =>
    simp only [if_true, true_and]
    refine Ev.bind (specThere_ev t b hl) ?_
    cases h2 : (goodT t && decide (0 ≤ b ∧ b < (t.length : Int))) with
    | false => simp only [Bool.false_eq_true, if_false]; exact Ev.now _
    | true =>
      simp only [if_true]
      rw [Bool.and_eq_true, decide_eq_true_eq] at h1 h2
      have hg := goodT_true.1 h1.1
      unfold spec_l10One.f
      by_cases e : a = b
      · simp only [if_pos e, Option.bind_some, decide_eq_true e, Bool.not_true, Bool.false_and]
        exact Ev.now _
      · simp only [if_neg e, decide_eq_false e, Bool.not_false, Bool.true_and]
        refine Ev.bind (a := abv t a b) ?_ (Ev.now _)
        exact Ev.bind (specAbove_ev hg a b (by omega)) (Ev.now _)

theorem implOneLink_ev (t : List B) (a b : Int) (hl : t.length ≤ 9223372036854775807) : Ev (fun k => impl_OneLink.f k t a b) (oneLinkA t a b) := by
  unfold impl_OneLink.f oneLinkA
  refine Ev.bind (implBlockOf_ev t a hl) ?_
  cases h1 : (goodT t && decide (0 ≤ a ∧ a < (t.length : Int))) with
  | false => simp only [Bool.false_eq_true, if_false, false_and]; exact Ev.now _
  | true =>
    simp only [if_true, true_and]
    refine Ev.bind (implBlockOf_ev t b hl) ?_
    cases h2 : (goodT t && decide (0 ≤ b ∧ b < (t.length : Int))) with
    | false => simp only [Bool.false_eq_true, if_false]; exact Ev.now _
    | true =>
      simp only [if_true]
      rw [Bool.and_eq_true, decide_eq_true_eq] at h1 h2
      have hg := goodT_true.1 h1.1
      by_cases e : a = b
      · simp only [if_pos e, decide_eq_true e, Bool.not_true, Bool.false_and]
        exact Ev.now _
      · simp only [if_neg e, decide_eq_false e, Bool.not_false, Bool.true_and]
        exact Ev.bind (implAbove_ev hg a b (by omega) (by omega) (by omega)) (Ev.now _)

end Go.Proofs.Ytnakodhmpacpdaa.Pure
