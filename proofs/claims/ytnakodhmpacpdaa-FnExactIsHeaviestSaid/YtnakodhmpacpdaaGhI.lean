/-
IsHeaviest in plain Lean.
Conditions: none beyond each lemma's own premises.
-/
import Derived.Test.YtnakodhmpacpdaaGhA
import Derived.Test.YtnakodhmpacpdaaGhC
import Derived.Test.YtnakodhmpacpdaaQ0
import Derived.Test.YtnakodhmpacpdaaQ20
import Derived.Test.YtnakodhmpacpdaaQ21
namespace Go.Proofs.Ytnakodhmpacpdaa.Pure
open Go.RowKit Go.Proofs.Ytnakodhmpacpdaa.Q Go.Proofs.Ytnakodhmpacpdaa.Gen Go.Proofs.YtnakodhmpacpdaaW.PrintWords Go.Proofs.YtnakodhmpacpdaaW.PrintLast
set_option linter.unusedVariables false
set_option linter.unusedSimpArgs false

/-! ### IsHeaviest, MarginAt -/
noncomputable def isHeaviestA (t : List B) (l : List Int) (b : Int) : Bool × Bool := if ownT t l = true ∧ 1 ≤ b ∧ b < t.length then (hv t (subW t l) (par t b) == b, true) else (false, false)
theorem specIsHeaviest_ev (t : List B) (l : List Int) (b : Int) (ht : t.length ≤ 1048576) (hl : l.length ≤ 1048576) : Ev (fun k => spec_IsHeaviest.f k t l b) (isHeaviestA t l b) := by
  unfold spec_IsHeaviest.f isHeaviestA
  refine Ev.bind (specOwn_ev t l ht hl) ?_
  cases ho : ownT t l with
  | false =>
    simp only [Bool.false_eq_true, if_false, false_and]
    refine Ev.one fun k => ?_
    simp only [spec_IsHeaviest.j0, if_true]
  | true =>
    have o := ownT_iff.1 ho
    simp only [if_true, true_and]
    by_cases c1 : b < 1
    · have : ¬ (1 ≤ b ∧ b < (t.length : Int)) := by omega
      simp only [if_pos c1, if_neg this]
      refine Ev.one fun k => ?_
      simp only [spec_IsHeaviest.j0, if_true]
    · by_cases c2 : b ≥ (t.length : Int)
      · have : ¬ (1 ≤ b ∧ b < (t.length : Int)) := by omega
        simp only [if_neg c1, decide_eq_true c2, if_neg this]
        refine Ev.one fun k => ?_
        simp only [spec_IsHeaviest.j0, if_true]
      · have c3 : 1 ≤ b ∧ b < (t.length : Int) := by omega
        have c4 : 0 ≤ b := by omega
        simp only [if_neg c1, decide_eq_false c2, if_pos c3]
        refine Ev.step (fun k => rfl) ?_
        simp only [spec_IsHeaviest.j0, Bool.false_eq_true, if_false]
        refine Ev.bind (specSub_ev o.good l o.len) ?_
        simp only [if_pos c4, if_pos c3.2]
        exact Ev.bind (specHeaviest_ev o.good _ (by rw [subW_length]; exact o.len) _ (o.good.par0 b c3.1 c3.2)) (Ev.now _)
theorem implIsHeaviest_ev (t : List B) (l : List Int) (b : Int) (ht : t.length ≤ 1048576) : Ev (fun k => impl_IsHeaviest.f k t l b) (isHeaviestA t l b) := by
  unfold impl_IsHeaviest.f isHeaviestA
  refine Ev.bind (implOwn_ev t l) ?_
  cases ho : ownT t l with
  | false =>
    simp only [Bool.false_eq_true, if_false, false_and]
    refine Ev.one fun k => ?_
    simp only [impl_IsHeaviest.j0, if_true]
  | true =>
    have o := ownT_iff.1 ho
    have hw : wrap64 ((t.length : Int) - 1) = (t.length : Int) - 1 := wrap_id (by omega) (by omega)
    simp only [if_true, true_and, within_eq, Option.bind_some, hw]
    by_cases c3 : 1 ≤ b ∧ b < (t.length : Int)
    · have c4 : 1 ≤ b ∧ b ≤ (t.length : Int) - 1 := by omega
      have c5 : 0 ≤ b := by omega
      simp only [decide_eq_true c4, Bool.not_true, if_pos c3]
      refine Ev.step (fun k => rfl) ?_
      simp only [impl_IsHeaviest.j0, Bool.false_eq_true, if_false]
      refine Ev.bind (implSub_ev o.good l o.len) ?_
      simp only [if_pos c5, if_pos c3.2]
      exact Ev.bind (implHeaviest_ev o.good _ (by rw [subW_length]; exact o.len) _) (Ev.now _)
    · have c4 : ¬ (1 ≤ b ∧ b ≤ (t.length : Int) - 1) := by omega
      simp only [decide_eq_false c4, Bool.not_false, if_neg c3]
      refine Ev.one fun k => ?_
      simp only [impl_IsHeaviest.j0, if_true]

end Go.Proofs.Ytnakodhmpacpdaa.Pure
