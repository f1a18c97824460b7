/-
JustifiedIn in plain Lean.
Conditions: none beyond each lemma's own premises.
-/
import Derived.Test.YtinjhichjnnajaaJst
import Derived.Test.YtinjhichjnnajaaQ0
import Derived.Test.YtinjhichjnnajaaQ44
namespace Go.Proofs.Ytinjhichjnnajaa.Pure
open Go.RowKit Go.Proofs.Ytinjhichjnnajaa.Q Go.Proofs.Ytinjhichjnnajaa.Gen Go.Proofs.YtinjhichjnnajaaW.PrintWords Go.Proofs.YtinjhichjnnajaaW.PrintLast
set_option linter.unusedVariables false
set_option linter.unusedSimpArgs false

noncomputable def justA (t : List B) (st : List Int) (l : List L) : List Int × Bool := if linksB t st l = true then (justified t st l, true) else ([], false)
theorem justA_length (t : List B) (st : List Int) (l : List L) : (justA t st l).1.length ≤ 1048576 := by
  unfold justA
  split
  · rename_i h; have := justified_length (linksB_gl h).tree st l; simp only; omega
  · simp
theorem specJustA_ev (t : List B) (st : List Int) (l : List L) (ht : t.length ≤ 1048576) (hs : st.length ≤ 1048576) (hl : l.length ≤ 1048576) : Ev (fun k => spec_JustifiedIn.f k t st l) (justA t st l) := by
  unfold spec_JustifiedIn.f justA
  refine Ev.bind (specLinks_ev t st l ht hs hl) ?_
  cases hb : linksB t st l with
  | false => simp only [Bool.false_eq_true, if_false]; exact Ev.now _
  | true => simp only [if_true]; exact Ev.bind (specJust_ev (linksB_gl hb)) (Ev.now _)
theorem implJustA_ev (t : List B) (st : List Int) (l : List L) (hs : st.length ≤ 1048576) : Ev (fun k => impl_JustifiedIn.f k t st l) (justA t st l) := by
  unfold impl_JustifiedIn.f justA
  refine Ev.bind (implLinks_ev t st l hs) ?_
  cases hb : linksB t st l with
  | false => simp only [Bool.false_eq_true, if_false]; exact Ev.now _
  | true => simp only [if_true]; exact Ev.bind (implJust_ev (linksB_gl hb)) (Ev.now _)

end Go.Proofs.Ytinjhichjnnajaa.Pure
