/-
LiarsBy in plain Lean.
Conditions: none beyond each lemma's own premises.
-/
import Derived.Test.YtinjhichjnnajaaLiars
import Derived.Test.YtinjhichjnnajaaQ0
import Derived.Test.YtinjhichjnnajaaQ46
namespace Go.Proofs.Ytinjhichjnnajaa.Pure
open Go.RowKit Go.Proofs.Ytinjhichjnnajaa.Q Go.Proofs.Ytinjhichjnnajaa.Gen Go.Proofs.YtinjhichjnnajaaW.PrintWords Go.Proofs.YtinjhichjnnajaaW.PrintLast
set_option linter.unusedVariables false
set_option linter.unusedSimpArgs false

noncomputable def liarsA (t : List B) (st : List Int) (l : List L) : List Int × Bool := if linksB t st l = true then (grp (liars t l), true) else ([], false)
theorem liarsA_length (t : List B) (st : List Int) (l : List L) : (liarsA t st l).1.length ≤ 1048576 := by
  unfold liarsA
  split
  · have := grp_length (liars t l); simp only; omega
  · simp
theorem specLiarsBy_ev (t : List B) (st : List Int) (l : List L) (ht : t.length ≤ 1048576) (hs : st.length ≤ 1048576) (hl : l.length ≤ 1048576) : Ev (fun k => spec_LiarsBy.f k t st l) (liarsA t st l) := by
  unfold spec_LiarsBy.f liarsA
  refine Ev.bind (specLinks_ev t st l ht hs hl) ?_
  cases hb : linksB t st l with
  | false => simp only [Bool.false_eq_true, if_false]; exact Ev.now _
  | true =>
    simp only [if_true]
    exact Ev.bind (specLiars_ev (linksB_gl hb)) (Ev.now _)
theorem implLiarsBy_ev (t : List B) (st : List Int) (l : List L) (hs : st.length ≤ 1048576) : Ev (fun k => impl_LiarsBy.f k t st l) (liarsA t st l) := by
  unfold impl_LiarsBy.f liarsA
  refine Ev.bind (implLinks_ev t st l hs) ?_
  cases hb : linksB t st l with
  | false => simp only [Bool.false_eq_true, if_false]; exact Ev.now _
  | true =>
    have g := linksB_gl hb
    simp only [if_true]
    refine Ev.bind (implLiars_ev g) ?_
    refine Ev.bind (implOfMask_ev _ (mkF_lt _ _ (by omega) (liars9 g))) ?_
    rw [bits_grp _ (liars9 g)]
    exact Ev.now _

end Go.Proofs.Ytinjhichjnnajaa.Pure
