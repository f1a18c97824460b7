/-
ActiveIn in plain Lean.
Conditions: none beyond each lemma's own premises.
-/
import Derived.Test.YthojcglddmadiaaPoolS
import Derived.Test.YthojcglddmadiaaQ0
import Derived.Test.YthojcglddmadiaaQ36
import Derived.Test.YthojcglddmadiaaQ41
import Derived.Test.YthojcglddmadiaaQ45
import Derived.Test.YthojcglddmadiaaQ46
import Derived.Test.YthojcglddmadiaaQ47
namespace Go.Proofs.Ythojcglddmadiaa.Pure
open Go.RowKit Go.Proofs.Ythojcglddmadiaa.Q Go.Proofs.Ythojcglddmadiaa.Gen Go.Proofs.YthojcglddmadiaaW.PrintWords Go.Proofs.YthojcglddmadiaaW.PrintLast
set_option linter.unusedVariables false
set_option linter.unusedSimpArgs false

theorem l8Now_eq (a b : Int) : spec_l8Now.f a b = some (nowB a b) := by
  unfold spec_l8Now.f nowB
  simp only [l1In_eq, Option.bind_some]
  by_cases c : 1 ≤ a ∧ a ≤ 4000
  · simp only [decide_eq_true c, if_true, Bool.true_and]
  · simp only [decide_eq_false c, Bool.false_eq_true, if_false, Bool.false_and]
theorem isPeriod_eq (a b : Int) : impl_isPeriod.f a b = some (nowB a b) := by
  unfold impl_isPeriod.f nowB
  simp only [within_eq, Option.bind_some]
  by_cases c : 1 ≤ a ∧ a ≤ 4000
  · simp only [decide_eq_true c, if_true, Bool.true_and]
  · simp only [decide_eq_false c, Bool.false_eq_true, if_false, Bool.false_and]
noncomputable def activeA (t : List B) (st : List Int) (l : List V) (now keep : Int) : List V × Bool := if poolB t st l = true ∧ nowB now keep = true then (inS (now - keep) (now - 1) l, true) else ([], false)
theorem activeA_length (t : List B) (st : List Int) (l : List V) (now keep : Int) (hl : l.length ≤ 1048576) : (activeA t st l now keep).1.length ≤ 1048576 := by
  unfold activeA
  split
  · have := inS_length (now - keep) (now - 1) l; simp only; omega
  · simp
theorem specActive_ev (t : List B) (st : List Int) (l : List V) (now keep : Int) (ht : t.length ≤ 1048576) (hs : st.length ≤ 1048576) (hl : l.length ≤ 1048576) : Ev (fun k => spec_ActiveIn.f k t st l now keep) (activeA t st l now keep) := by
  unfold spec_ActiveIn.f activeA
  refine Ev.bind (specPool_ev t st l ht hs hl) ?_
  cases hp : poolB t st l with
  | false => simp only [Bool.false_eq_true, if_false, false_and]; exact Ev.now _
  | true =>
    simp only [if_true, true_and, l8Now_eq, Option.bind_some]
    cases hn : nowB now keep with
    | false => simp only [Bool.false_eq_true, if_false]; exact Ev.now _
    | true =>
      unfold nowB at hn
      simp only [Bool.and_eq_true, decide_eq_true_eq] at hn
      simp only [if_true, wrap_id (show -9223372036854775808 ≤ now - keep by omega) (by omega)]
      exact Ev.bind (l8Within_ev l (now - keep) now hl) (Ev.now _)
theorem implActive_ev (t : List B) (st : List Int) (l : List V) (now keep : Int) (ht : t.length ≤ 1048576) (hs : st.length ≤ 1048576) (hl : l.length ≤ 1048576) : Ev (fun k => impl_ActiveIn.f k t st l now keep) (activeA t st l now keep) := by
  unfold impl_ActiveIn.f activeA
  refine Ev.bind (implPool_ev t st l ht hs) ?_
  cases hp : poolB t st l with
  | false => simp only [Bool.false_eq_true, if_false, false_and]; exact Ev.now _
  | true =>
    simp only [if_true, true_and, isPeriod_eq, Option.bind_some]
    cases hn : nowB now keep with
    | false => simp only [Bool.false_eq_true, if_false]; exact Ev.now _
    | true =>
      unfold nowB at hn
      simp only [Bool.and_eq_true, decide_eq_true_eq] at hn
      simp only [if_true, impl_activeIn.f, wrap_id (show -9223372036854775808 ≤ now - keep by omega) (by omega), wrap_id (show -9223372036854775808 ≤ now - 1 by omega) (by omega)]
      refine Ev.bind (Ev.bind (votesIn_ev l (now - keep) (now - 1) hl) (Ev.now _)) ?_
      exact Ev.now _

end Go.Proofs.Ythojcglddmadiaa.Pure
