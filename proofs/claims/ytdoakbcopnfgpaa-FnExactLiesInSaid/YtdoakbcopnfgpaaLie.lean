/-
When two links break the rules, in plain Lean.
Conditions: none beyond each lemma's own premises.
-/
import Derived.Test.YtdoakbcopnfgpaaDep
import Derived.Test.YtdoakbcopnfgpaaLnk
import Derived.Test.YtdoakbcopnfgpaaQ0
import Derived.Test.YtdoakbcopnfgpaaQ8
import Derived.Test.YtdoakbcopnfgpaaQ9
import Derived.Test.YtdoakbcopnfgpaaQ19
import Derived.Test.YtdoakbcopnfgpaaQ20
namespace Go.Proofs.Ytdoakbcopnfgpaa.Pure
open Go.RowKit Go.Proofs.Ytdoakbcopnfgpaa.Q Go.Proofs.Ytdoakbcopnfgpaa.Gen Go.Proofs.YtdoakbcopnfgpaaW.PrintWords Go.Proofs.YtdoakbcopnfgpaaW.PrintLast
set_option linter.unusedVariables false
set_option linter.unusedSimpArgs false

def arndB (t : List B) (a b : L) : Bool := decide (dep t a.f1 < dep t b.f1) && decide (dep t a.f2 > dep t b.f2)
def lieB (t : List B) (a b : L) : Bool := decide (a.f0 = b.f0) && (!(a.f0 == b.f0 && (a.f1 == b.f1 && (a.f2 == b.f2))) && (decide (dep t a.f2 = dep t b.f2) || (arndB t a b || arndB t b a)))
/-- The link lies in the tree. -/
def InT (t : List B) (a : L) : Prop := a.f1 < (t.length : Int) ∧ a.f2 < (t.length : Int)
theorem specAround_ev {t : List B} (hg : GT t) (a b : L) (ha : InT t a) (hb : InT t b) : Ev (fun k => spec_l11Around.f k t a.f0 a.f1 a.f2 b.f0 b.f1 b.f2) (arndB t a b) := by
  unfold spec_l11Around.f arndB
  refine Ev.bind (specDepth_ev hg _ ha.1) ?_
  refine Ev.bind (specDepth_ev hg _ hb.1) ?_
  by_cases c : dep t a.f1 < dep t b.f1
  · simp only [if_pos c, decide_eq_true c, Bool.true_and]
    refine Ev.bind (specDepth_ev hg _ ha.2) ?_
    exact Ev.bind (specDepth_ev hg _ hb.2) (Ev.now _)
  · simp only [if_neg c, decide_eq_false c, Bool.false_and]
    exact Ev.now _
theorem implAround_ev {t : List B} (hg : GT t) (a b : L) (ha : InT t a) (hb : InT t b) : Ev (fun k => impl_surrounds.f k t a.f0 a.f1 a.f2 b.f0 b.f1 b.f2) (arndB t a b) := by
  unfold impl_surrounds.f arndB
  refine Ev.bind (implDepth_ev hg _ ha.1) ?_
  refine Ev.bind (implDepth_ev hg _ hb.1) ?_
  by_cases c : dep t a.f1 < dep t b.f1
  · simp only [if_pos c, decide_eq_true c, Bool.true_and]
    refine Ev.bind (implDepth_ev hg _ ha.2) ?_
    exact Ev.bind (implDepth_ev hg _ hb.2) (Ev.now _)
  · simp only [if_neg c, decide_eq_false c, Bool.false_and]
    exact Ev.now _
theorem specLie_ev {t : List B} (hg : GT t) (a b : L) (ha : InT t a) (hb : InT t b) : Ev (fun k => spec_l11Lie.f k t a.f0 a.f1 a.f2 b.f0 b.f1 b.f2) (lieB t a b) := by
  have no : Ev (fun k => spec_l11Lie.j0 k t true a.f0 a.f1 a.f2 b.f0 b.f1 b.f2) false := Ev.one fun k => by simp only [spec_l11Lie.j0, if_true]
  unfold spec_l11Lie.f lieB
  by_cases c : a.f0 = b.f0
  · simp only [if_pos c, decide_eq_true c, Bool.true_and]
    cases e : (a.f0 == b.f0 && (a.f1 == b.f1 && (a.f2 == b.f2))) with
    | true => exact no
    | false =>
      refine Ev.step (fun k => rfl) ?_
      simp only [spec_l11Lie.j0, Bool.false_eq_true, if_false, Bool.not_false, Bool.true_and]
      refine Ev.bind (specDepth_ev hg _ ha.2) ?_
      refine Ev.bind (specDepth_ev hg _ hb.2) ?_
      by_cases d : dep t a.f2 = dep t b.f2
      · simp only [if_pos d, decide_eq_true d, Bool.true_or]; exact Ev.now _
      · simp only [if_neg d, decide_eq_false d, Bool.false_or]
        refine Ev.bind (specAround_ev hg a b ha hb) ?_
        cases f : arndB t a b with
        | true => simp only [if_true, Bool.true_or]; exact Ev.now _
        | false =>
          simp only [Bool.false_eq_true, if_false, Bool.false_or]
          exact Ev.bind (specAround_ev hg b a hb ha) (Ev.now _)
  · simp only [if_neg c, decide_eq_false c, Bool.false_and]
    exact no
theorem implLie_ev {t : List B} (hg : GT t) (a b : L) (ha : InT t a) (hb : InT t b) : Ev (fun k => impl_isLie.f k t a.f0 a.f1 a.f2 b.f0 b.f1 b.f2) (lieB t a b) := by
  unfold impl_isLie.f lieB
  by_cases c : a.f0 = b.f0
  · simp only [if_pos c, decide_eq_true c, Bool.true_and]
    have en : (!(a.f0 == b.f0) || (!(a.f1 == b.f1) || (!(a.f2 == b.f2)))) = !(a.f0 == b.f0 && (a.f1 == b.f1 && (a.f2 == b.f2))) := by
      cases (a.f0 == b.f0) <;> cases (a.f1 == b.f1) <;> cases (a.f2 == b.f2) <;> rfl
    rw [en]
    cases e : (a.f0 == b.f0 && (a.f1 == b.f1 && (a.f2 == b.f2))) with
    | true => simp only [Bool.not_true, Bool.false_eq_true, if_false, Bool.false_and]; exact Ev.now _
    | false =>
      simp only [Bool.not_false, if_true, Bool.true_and]
      refine Ev.bind (implDepth_ev hg _ ha.2) ?_
      refine Ev.bind (implDepth_ev hg _ hb.2) ?_
      by_cases d : dep t a.f2 = dep t b.f2
      · simp only [if_pos d, decide_eq_true d, Bool.true_or]; exact Ev.now _
      · simp only [if_neg d, decide_eq_false d, Bool.false_or]
        refine Ev.bind (implAround_ev hg a b ha hb) ?_
        cases f : arndB t a b with
        | true => simp only [if_true, Bool.true_or]; exact Ev.now _
        | false =>
          simp only [Bool.false_eq_true, if_false, Bool.false_or]
          exact Ev.bind (implAround_ev hg b a hb ha) (Ev.now _)
  · simp only [if_neg c, decide_eq_false c, Bool.false_and]
    exact Ev.now _
theorem GL.inT {t : List B} {st : List Int} {l : List L} (g : GL t st l) : ∀ x ∈ l, InT t x := fun x hx => ⟨(g.from0 x hx).2, (g.to0 x hx).2⟩

end Go.Proofs.Ytdoakbcopnfgpaa.Pure
