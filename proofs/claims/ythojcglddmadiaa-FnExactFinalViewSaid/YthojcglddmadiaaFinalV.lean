/-
FinalView in plain Lean.
Conditions: none beyond each lemma's own premises.
-/
import Derived.Test.YthojcglddmadiaaPoolS
import Derived.Test.YthojcglddmadiaaQ0
import Derived.Test.YthojcglddmadiaaQ22
import Derived.Test.YthojcglddmadiaaQ23
namespace Go.Proofs.Ythojcglddmadiaa.Pure
open Go.RowKit Go.Proofs.Ythojcglddmadiaa.Q Go.Proofs.Ythojcglddmadiaa.Gen Go.Proofs.YthojcglddmadiaaW.PrintWords Go.Proofs.YthojcglddmadiaaW.PrintLast
set_option linter.unusedVariables false
set_option linter.unusedSimpArgs false

theorem isPeriod_eq (a b : Int) : impl_isPeriod.f a b = some (nowB a b) := by
  unfold impl_isPeriod.f nowB
  simp only [within_eq, Option.bind_some]
  by_cases c : 1 ≤ a ∧ a ≤ 4000
  · simp only [decide_eq_true c, if_true, Bool.true_and]
  · simp only [decide_eq_false c, Bool.false_eq_true, if_false, Bool.false_and]
noncomputable def finalVA (t : List B) (st : List Int) (l : List V) (now : Int) : List V × Bool := if poolB t st l = true ∧ (1 ≤ now ∧ now ≤ 4000) then (inS 0 (now - 1) l, true) else ([], false)
theorem finalVA_length (t : List B) (st : List Int) (l : List V) (now : Int) (hl : l.length ≤ 1048576) : (finalVA t st l now).1.length ≤ 1048576 := by
  unfold finalVA
  split
  · have := inS_length 0 (now - 1) l; simp only; omega
  · simp
theorem specFinalV_ev (t : List B) (st : List Int) (l : List V) (now : Int) (ht : t.length ≤ 1048576) (hs : st.length ≤ 1048576) (hl : l.length ≤ 1048576) : Ev (fun k => spec_FinalView.f k t st l now) (finalVA t st l now) := by
  unfold spec_FinalView.f finalVA
  refine Ev.bind (specPool_ev t st l ht hs hl) ?_
  cases hp : poolB t st l with
  | false => simp only [Bool.false_eq_true, if_false, false_and]; exact Ev.now _
  | true =>
    simp only [if_true, true_and, l1In_eq, Option.bind_some]
    by_cases c : 1 ≤ now ∧ now ≤ 4000
    · simp only [decide_eq_true c, if_true, if_pos c]
      exact Ev.bind (l8Within_ev l 0 now hl) (Ev.now _)
    · simp only [decide_eq_false c, Bool.false_eq_true, if_false, if_neg c]
      exact Ev.now _
theorem implFinalV_ev (t : List B) (st : List Int) (l : List V) (now : Int) (ht : t.length ≤ 1048576) (hs : st.length ≤ 1048576) (hl : l.length ≤ 1048576) : Ev (fun k => impl_FinalView.f k t st l now) (finalVA t st l now) := by
  unfold impl_FinalView.f finalVA
  refine Ev.bind (implPool_ev t st l ht hs) ?_
  cases hp : poolB t st l with
  | false => simp only [Bool.false_eq_true, if_false, false_and]; exact Ev.now _
  | true =>
    simp only [if_true, true_and, isPeriod_eq, Option.bind_some, nowB, decide_eq_true (show (1 : Int) ≤ 1 ∧ (1 : Int) ≤ 100 by omega), Bool.and_true]
    by_cases c : 1 ≤ now ∧ now ≤ 4000
    · simp only [decide_eq_true c, if_true, if_pos c, wrap_id (show -9223372036854775808 ≤ now - 1 by omega) (by omega)]
      exact Ev.bind (votesIn_ev l 0 (now - 1) hl) (Ev.now _)
    · simp only [decide_eq_false c, Bool.false_eq_true, if_false, if_neg c]
      exact Ev.now _

end Go.Proofs.Ythojcglddmadiaa.Pure
