/-
WhoLinks in plain Lean.
Conditions: none beyond each lemma's own premises.
-/
import Derived.Test.YtinjhichjnnajaaLnkW
import Derived.Test.YtinjhichjnnajaaQ0
import Derived.Test.YtinjhichjnnajaaQ29
namespace Go.Proofs.Ytinjhichjnnajaa.Pure
open Go.RowKit Go.Proofs.Ytinjhichjnnajaa.Q Go.Proofs.Ytinjhichjnnajaa.Gen Go.Proofs.YtinjhichjnnajaaW.PrintWords Go.Proofs.YtinjhichjnnajaaW.PrintLast
set_option linter.unusedVariables false
set_option linter.unusedSimpArgs false

noncomputable def whoA (t : List B) (st : List Int) (l : List L) (a b : Int) : List Int × Bool := if askedB t st l a b = true then (grp (wsOf a b l), true) else ([], false)
theorem whoA_length (t : List B) (st : List Int) (l : List L) (a b : Int) : (whoA t st l a b).1.length ≤ 1048576 := by
  unfold whoA
  split
  · have := grp_length (wsOf a b l); simp only; omega
  · simp
theorem specWhoLinks_ev (t : List B) (st : List Int) (l : List L) (a b : Int) (ht : t.length ≤ 1048576) (hs : st.length ≤ 1048576) (hl : l.length ≤ 1048576) : Ev (fun k => spec_WhoLinks.f k t st l a b) (whoA t st l a b) := by
  unfold spec_WhoLinks.f whoA
  refine Ev.bind (specAsked_ev t st l a b ht hs hl) ?_
  cases hb : askedB t st l a b with
  | false => simp only [Bool.false_eq_true, if_false]; exact Ev.now _
  | true =>
    have g : GL t st l := by unfold askedB at hb; rw [Bool.and_eq_true] at hb; exact linksB_gl hb.1
    simp only [if_true]
    exact Ev.bind (specWho_ev l a b hl g.nine) (Ev.now _)
theorem implWhoLinks_ev (t : List B) (st : List Int) (l : List L) (a b : Int) (ht : t.length ≤ 1048576) (hs : st.length ≤ 1048576) (hl : l.length ≤ 1048576) : Ev (fun k => impl_WhoLinks.f k t st l a b) (whoA t st l a b) := by
  have no : Ev (fun k => impl_WhoLinks.j0 k l a b true) ([], false) := Ev.one fun k => by simp only [impl_WhoLinks.j0, if_true]
  unfold impl_WhoLinks.f whoA askedB
  refine Ev.bind (implLinks_ev t st l hs) ?_
  cases hb : linksB t st l with
  | false => simp only [Bool.false_eq_true, if_false, Bool.false_and]; exact no
  | true =>
    have g := linksB_gl hb
    simp only [if_true, Bool.true_and, within_eq, Option.bind_some, wrap_id (show -9223372036854775808 ≤ (t.length : Int) - 1 by omega) (by omega)]
    by_cases c : 0 ≤ a ∧ a ≤ (t.length : Int) - 1
    · simp only [decide_eq_true c, if_true, Bool.true_and]
      by_cases d : 0 ≤ b ∧ b ≤ (t.length : Int) - 1
      · simp only [decide_eq_true d, if_true, Bool.not_true]
        refine Ev.step (fun k => rfl) ?_
        simp only [impl_WhoLinks.j0, Bool.false_eq_true, if_false]
        refine Ev.bind (implWho_ev l a b hl g.nine) ?_
        refine Ev.bind (implOfMask_ev _ (mkF_lt _ _ (by omega) (ws9 g a b))) ?_
        rw [bits_grp _ (ws9 g a b)]
        exact Ev.now _
      · simp only [decide_eq_false d, Bool.not_false, Bool.false_eq_true, if_false]
        exact no
    · simp only [decide_eq_false c, Bool.false_eq_true, if_false, Bool.false_and]
      exact no

end Go.Proofs.Ytinjhichjnnajaa.Pure
