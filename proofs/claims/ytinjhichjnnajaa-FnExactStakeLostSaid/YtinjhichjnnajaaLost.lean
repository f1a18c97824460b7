/-
StakeLost in plain Lean.
Conditions: none beyond each lemma's own premises.
-/
import Derived.Test.YtinjhichjnnajaaLiars
import Derived.Test.YtinjhichjnnajaaGrpW
import Derived.Test.YtinjhichjnnajaaQ0
import Derived.Test.YtinjhichjnnajaaQ33
import Derived.Test.YtinjhichjnnajaaQ34
namespace Go.Proofs.Ytinjhichjnnajaa.Pure
open Go.RowKit Go.Proofs.Ytinjhichjnnajaa.Q Go.Proofs.Ytinjhichjnnajaa.Gen Go.Proofs.YtinjhichjnnajaaW.PrintWords Go.Proofs.YtinjhichjnnajaaW.PrintLast
set_option linter.unusedVariables false
set_option linter.unusedSimpArgs false

noncomputable def lostA (t : List B) (st : List Int) (l : List L) : Int × Bool := if linksB t st l = true then (wtW st (liars t l), true) else (0, false)
theorem specLost_ev (t : List B) (st : List Int) (l : List L) (ht : t.length ≤ 1048576) (hs : st.length ≤ 1048576) (hl : l.length ≤ 1048576) : Ev (fun k => spec_StakeLost.f k t st l) (lostA t st l) := by
  unfold spec_StakeLost.f lostA
  refine Ev.bind (specLinks_ev t st l ht hs hl) ?_
  cases hb : linksB t st l with
  | false => simp only [Bool.false_eq_true, if_false]; exact Ev.now _
  | true =>
    have g := linksB_gl hb
    simp only [if_true]
    refine Ev.bind (specLiars_ev g) ?_
    exact Ev.bind (specWeight_ev st _ (by have := grp_length (liars t l); omega) (fun x hx => liars_mem g x (mem_grp.1 hx).2)) (Ev.now _)
theorem implLost_ev (t : List B) (st : List Int) (l : List L) (hs : st.length ≤ 1048576) : Ev (fun k => impl_StakeLost.f k t st l) (lostA t st l) := by
  unfold impl_StakeLost.f lostA
  refine Ev.bind (implLinks_ev t st l hs) ?_
  cases hb : linksB t st l with
  | false => simp only [Bool.false_eq_true, if_false]; exact Ev.now _
  | true =>
    have g := linksB_gl hb
    simp only [if_true]
    refine Ev.bind (implLiars_ev g) ?_
    exact Ev.bind (implWeight_ev st _ g.st1 (liars_mem g)) (Ev.now _)

end Go.Proofs.Ytinjhichjnnajaa.Pure
