/-
SubWeights in plain Lean.
Conditions: none beyond each lemma's own premises.
-/
import Derived.Test.YtnakodhmpacpdaaGhA
import Derived.Test.YtnakodhmpacpdaaQ0
import Derived.Test.YtnakodhmpacpdaaQ14
import Derived.Test.YtnakodhmpacpdaaQ15
namespace Go.Proofs.Ytnakodhmpacpdaa.Pure
open Go.RowKit Go.Proofs.Ytnakodhmpacpdaa.Q Go.Proofs.Ytnakodhmpacpdaa.Gen Go.Proofs.YtnakodhmpacpdaaW.PrintWords Go.Proofs.YtnakodhmpacpdaaW.PrintLast
set_option linter.unusedVariables false
set_option linter.unusedSimpArgs false

noncomputable def subWeightsA (t : List B) (l : List Int) : List Int × Bool := if ownT t l = true then (subW t l, true) else ([], false)
theorem specSubWeights_ev (t : List B) (l : List Int) (ht : t.length ≤ 1048576) (hl : l.length ≤ 1048576) : Ev (fun k => spec_SubWeights.f k t l) (subWeightsA t l) := by
  unfold spec_SubWeights.f subWeightsA
  refine Ev.bind (specOwn_ev t l ht hl) ?_
  cases ho : ownT t l with
  | false => simp only [Bool.false_eq_true, if_false]; exact Ev.now _
  | true =>
    have o := ownT_iff.1 ho
    simp only [if_true]
    exact Ev.bind (specSub_ev o.good l o.len) (Ev.now _)
theorem implSubWeights_ev (t : List B) (l : List Int) : Ev (fun k => impl_SubWeights.f k t l) (subWeightsA t l) := by
  unfold impl_SubWeights.f subWeightsA
  refine Ev.bind (implOwn_ev t l) ?_
  cases ho : ownT t l with
  | false => simp only [Bool.false_eq_true, if_false]; exact Ev.now _
  | true =>
    have o := ownT_iff.1 ho
    simp only [if_true]
    exact Ev.bind (implSub_ev o.good l o.len) (Ev.now _)
theorem subWeightsA_length (t : List B) (l : List Int) (hl : l.length ≤ 1048576) : (subWeightsA t l).1.length ≤ 1048576 := by
  unfold subWeightsA
  split
  · rw [subW_length]; exact hl
  · simp

end Go.Proofs.Ytnakodhmpacpdaa.Pure
