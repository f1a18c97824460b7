/-
FinalIn in plain Lean.
Conditions: none beyond each lemma's own premises.
-/
import Derived.Test.YtdoakbcopnfgpaaFin
import Derived.Test.YtdoakbcopnfgpaaQ0
import Derived.Test.YtdoakbcopnfgpaaQ31
import Derived.Test.YtdoakbcopnfgpaaQ35
namespace Go.Proofs.Ytdoakbcopnfgpaa.Pure
open Go.RowKit Go.Proofs.Ytdoakbcopnfgpaa.Q Go.Proofs.Ytdoakbcopnfgpaa.Gen Go.Proofs.YtdoakbcopnfgpaaW.PrintWords Go.Proofs.YtdoakbcopnfgpaaW.PrintLast
set_option linter.unusedVariables false
set_option linter.unusedSimpArgs false

noncomputable def finalA (t : List B) (st : List Int) (l : List L) : List Int × Bool := if linksB t st l = true then (finals t st l, true) else ([], false)
theorem finalA_length (t : List B) (st : List Int) (l : List L) : (finalA t st l).1.length ≤ 1048576 := by
  unfold finalA
  split
  · rename_i h; have := finals_length (linksB_gl h).tree st l; simp only; omega
  · simp
theorem specFinalA_ev (t : List B) (st : List Int) (l : List L) (ht : t.length ≤ 1048576) (hs : st.length ≤ 1048576) (hl : l.length ≤ 1048576) : Ev (fun k => spec_FinalIn.f k t st l) (finalA t st l) := by
  unfold spec_FinalIn.f finalA
  refine Ev.bind (specLinks_ev t st l ht hs hl) ?_
  cases hb : linksB t st l with
  | false => simp only [Bool.false_eq_true, if_false]; exact Ev.now _
  | true => simp only [if_true]; exact Ev.bind (specFinal_ev (linksB_gl hb)) (Ev.now _)
theorem implFinalA_ev (t : List B) (st : List Int) (l : List L) (hs : st.length ≤ 1048576) : Ev (fun k => impl_FinalIn.f k t st l) (finalA t st l) := by
  unfold impl_FinalIn.f finalA
  refine Ev.bind (implLinks_ev t st l hs) ?_
  cases hb : linksB t st l with
  | false => simp only [Bool.false_eq_true, if_false]; exact Ev.now _
  | true => simp only [if_true]; exact Ev.bind (implFinal_ev (linksB_gl hb)) (Ev.now _)

end Go.Proofs.Ytdoakbcopnfgpaa.Pure
