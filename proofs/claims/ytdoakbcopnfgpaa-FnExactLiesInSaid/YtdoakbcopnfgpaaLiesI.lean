/-
LiesIn in plain Lean.
Conditions: none beyond each lemma's own premises.
-/
import Derived.Test.YtdoakbcopnfgpaaLies
import Derived.Test.YtdoakbcopnfgpaaQ0
import Derived.Test.YtdoakbcopnfgpaaQ11
import Derived.Test.YtdoakbcopnfgpaaQ22
namespace Go.Proofs.Ytdoakbcopnfgpaa.Pure
open Go.RowKit Go.Proofs.Ytdoakbcopnfgpaa.Q Go.Proofs.Ytdoakbcopnfgpaa.Gen Go.Proofs.YtdoakbcopnfgpaaW.PrintWords Go.Proofs.YtdoakbcopnfgpaaW.PrintLast
set_option linter.unusedVariables false
set_option linter.unusedSimpArgs false

noncomputable def liesInA (t : List B) (st : List Int) (l : List L) : List PF × Bool := if linksB t st l = true then (liesL t l, true) else ([], false)
theorem liesLen (t : List B) : ∀ l : List L, (liesL t l).length ≤ l.length * l.length
  | [] => by simp [liesL]
  | a :: l => by
    have := liesLen t l
    have h2 : (liesA t a l).length ≤ l.length := by unfold liesA; rw [List.length_map]; exact List.length_filter_le _ _
    rw [liesL, List.length_append, List.length_cons, Nat.add_mul, Nat.mul_add]
    omega
theorem liesInA_length (t : List B) (st : List Int) (l : List L) : (liesInA t st l).1.length ≤ 1048576 := by
  unfold liesInA
  split
  · rename_i h
    have h1 := (linksB_gl h).len
    have h2 := liesLen t l
    have h3 : l.length * l.length ≤ 40 * 40 := Nat.mul_le_mul h1 h1
    simp only
    omega
  · simp
theorem specLiesA_ev (t : List B) (st : List Int) (l : List L) (ht : t.length ≤ 1048576) (hs : st.length ≤ 1048576) (hl : l.length ≤ 1048576) : Ev (fun k => spec_LiesIn.f k t st l) (liesInA t st l) := by
  unfold spec_LiesIn.f liesInA
  refine Ev.bind (specLinks_ev t st l ht hs hl) ?_
  cases hb : linksB t st l with
  | false => simp only [Bool.false_eq_true, if_false]; exact Ev.now _
  | true =>
    have g := linksB_gl hb
    simp only [if_true]
    exact Ev.bind (specLies_ev g.tree l g.len g.inT) (Ev.now _)
theorem implLiesA_ev (t : List B) (st : List Int) (l : List L) (hs : st.length ≤ 1048576) : Ev (fun k => impl_LiesIn.f k t st l) (liesInA t st l) := by
  unfold impl_LiesIn.f liesInA
  refine Ev.bind (implLinks_ev t st l hs) ?_
  cases hb : linksB t st l with
  | false => simp only [Bool.false_eq_true, if_false]; exact Ev.now _
  | true =>
    have g := linksB_gl hb
    simp only [if_true]
    exact Ev.bind (implLies_ev g.tree l g.len g.inT) (Ev.now _)

end Go.Proofs.Ytdoakbcopnfgpaa.Pure
