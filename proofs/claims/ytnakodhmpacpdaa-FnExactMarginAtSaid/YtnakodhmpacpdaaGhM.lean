/-
MarginAt in plain Lean.
Conditions: none beyond each lemma's own premises.
-/
import Derived.Test.YtnakodhmpacpdaaGhA
import Derived.Test.YtnakodhmpacpdaaGhC
import Derived.Test.YtnakodhmpacpdaaQ0
import Derived.Test.YtnakodhmpacpdaaQ17
import Derived.Test.YtnakodhmpacpdaaQ18
namespace Go.Proofs.Ytnakodhmpacpdaa.Pure
open Go.RowKit Go.Proofs.Ytnakodhmpacpdaa.Q Go.Proofs.Ytnakodhmpacpdaa.Gen Go.Proofs.YtnakodhmpacpdaaW.PrintWords Go.Proofs.YtnakodhmpacpdaaW.PrintLast
set_option linter.unusedVariables false
set_option linter.unusedSimpArgs false

/-- The greatest subtree weight of another child. -/
def mostL (sub : List Int) (b : Int) : List Int → Int → Int
  | [], m => m
  | k :: ks, m => mostL sub b ks (if k = b then m else if rd sub k > m then rd sub k else m)
noncomputable def marginA (t : List B) (l : List Int) (b : Int) : Int × Bool :=
  if ownT t l = true ∧ 1 ≤ b ∧ b < t.length then (wrap64 (rd (subW t l) b - mostL (subW t l) b (children t (par t b)) 0), true) else (0, false)
theorem specMarginL_ev (sub ch : List Int) (b : Int) (hch : ch.length ≤ 1048576) (hin : ∀ k ∈ ch, 0 ≤ k ∧ k < sub.length) (hb0 : 0 ≤ b) (hb1 : b < sub.length) (m : Int) :
    Ev (fun k => spec_MarginAt.l0 k b sub m ch (ch.length : Int) 0) (wrap64 (rd sub b - mostL sub b ch m), true) := by
  refine ev_list (fun k s i => spec_MarginAt.l0 k b sub s ch (ch.length : Int) i) (fun xs s => (wrap64 (rd sub b - mostL sub b xs s), true)) ch ?_ ?_ m
  · intro s
    have c : ¬ ((ch.length : Int) < (ch.length : Int)) := by omega
    refine Ev.one fun k => ?_
    simp only [spec_MarginAt.l0, if_neg c, if_pos hb0, if_pos hb1, mostL]
  · intro i x xs s hd hi hx h
    have c1 : (i : Int) < (ch.length : Int) := by omega
    have c2 : (0 : Int) ≤ (i : Int) := by omega
    have hw : wrap64 ((i : Int) + 1) = (i : Int) + 1 := wrap_id (by omega) (by omega)
    obtain ⟨x0, x1⟩ := hin x (List.mem_of_getElem? hx)
    refine Ev.step (fun k => rfl) ?_
    simp only [spec_MarginAt.l0, if_pos c1, if_pos c2, rd_at hx, hw, mostL]
    by_cases e : x = b
    · simp only [if_pos e]
      exact h s
    · simp only [if_neg e, if_pos x0, if_pos x1]
      by_cases c5 : rd sub x > s
      · simp only [if_pos c5]
        exact h _
      · simp only [if_neg c5]
        exact h s
theorem implMarginL_ev (sub ch : List Int) (b : Int) (hch : ch.length ≤ 1048576) (hin : ∀ k ∈ ch, 0 ≤ k ∧ k < sub.length) (hb0 : 0 ≤ b) (hb1 : b < sub.length) (m : Int) :
    Ev (fun k => impl_MarginAt.l0 k b sub m ch (ch.length : Int) 0) (wrap64 (rd sub b - mostL sub b ch m), true) := by
  refine ev_list (fun k s i => impl_MarginAt.l0 k b sub s ch (ch.length : Int) i) (fun xs s => (wrap64 (rd sub b - mostL sub b xs s), true)) ch ?_ ?_ m
  · intro s
    have c : ¬ ((ch.length : Int) < (ch.length : Int)) := by omega
    refine Ev.one fun k => ?_
    simp only [impl_MarginAt.l0, if_neg c, if_pos hb0, if_pos hb1, mostL]
  · intro i x xs s hd hi hx h
    have c1 : (i : Int) < (ch.length : Int) := by omega
    have c2 : (0 : Int) ≤ (i : Int) := by omega
    have hw : wrap64 ((i : Int) + 1) = (i : Int) + 1 := wrap_id (by omega) (by omega)
    obtain ⟨x0, x1⟩ := hin x (List.mem_of_getElem? hx)
    refine Ev.step (fun k => rfl) ?_
    simp only [impl_MarginAt.l0, if_pos c1, if_pos c2, rd_at hx, hw, mostL]
    by_cases e : x = b
    · simp only [if_pos e]
      exact h s
    · simp only [if_neg e, if_pos x0, if_pos x1]
      have em : mx s (rd sub x) = if rd sub x > s then rd sub x else s := by unfold mx; (repeat' split) <;> omega
      rw [em]
      exact h _
theorem specMargin_ev (t : List B) (l : List Int) (b : Int) (ht : t.length ≤ 1048576) (hl : l.length ≤ 1048576) : Ev (fun k => spec_MarginAt.f k t l b) (marginA t l b) := by
  unfold spec_MarginAt.f marginA
  refine Ev.bind (specOwn_ev t l ht hl) ?_
  cases ho : ownT t l with
  | false =>
    simp only [Bool.false_eq_true, if_false, false_and]
    refine Ev.one fun k => ?_
    simp only [spec_MarginAt.j0, if_true]
  | true =>
    have o := ownT_iff.1 ho
    have hi := o.good.hi
    simp only [if_true, true_and]
    by_cases c1 : b < 1
    · have : ¬ (1 ≤ b ∧ b < (t.length : Int)) := by omega
      simp only [if_pos c1, if_neg this]
      refine Ev.one fun k => ?_
      simp only [spec_MarginAt.j0, if_true]
    · by_cases c2 : b ≥ (t.length : Int)
      · have : ¬ (1 ≤ b ∧ b < (t.length : Int)) := by omega
        simp only [if_neg c1, decide_eq_true c2, if_neg this]
        refine Ev.one fun k => ?_
        simp only [spec_MarginAt.j0, if_true]
      · have c3 : 1 ≤ b ∧ b < (t.length : Int) := by omega
        have c4 : 0 ≤ b := by omega
        have sl : (subW t l).length = t.length := by rw [subW_length]; exact o.len
        simp only [if_neg c1, decide_eq_false c2, if_pos c3]
        refine Ev.step (fun k => rfl) ?_
        simp only [spec_MarginAt.j0, Bool.false_eq_true, if_false]
        refine Ev.bind (specSub_ev o.good l o.len) ?_
        simp only [if_pos c4, if_pos c3.2]
        refine Ev.bind (specChildren_ev o.good _ (o.good.par0 b c3.1 c3.2)) ?_
        have cl := children_length t (par t b)
        exact specMarginL_ev _ _ b (by unfold par at cl; omega) (fun k hk => by have := (children_mem t _ k).1 hk; omega) c4 (by omega) 0
theorem implMargin_ev (t : List B) (l : List Int) (b : Int) (ht : t.length ≤ 1048576) : Ev (fun k => impl_MarginAt.f k t l b) (marginA t l b) := by
  unfold impl_MarginAt.f marginA
  refine Ev.bind (implOwn_ev t l) ?_
  cases ho : ownT t l with
  | false =>
    simp only [Bool.false_eq_true, if_false, false_and]
    refine Ev.one fun k => ?_
    simp only [impl_MarginAt.j0, if_true]
  | true =>
    have o := ownT_iff.1 ho
    have hi := o.good.hi
    have hw : wrap64 ((t.length : Int) - 1) = (t.length : Int) - 1 := wrap_id (by omega) (by omega)
    simp only [if_true, true_and, within_eq, Option.bind_some, hw]
    by_cases c3 : 1 ≤ b ∧ b < (t.length : Int)
    · have c4 : 1 ≤ b ∧ b ≤ (t.length : Int) - 1 := by omega
      have c5 : 0 ≤ b := by omega
      have sl : (subW t l).length = t.length := by rw [subW_length]; exact o.len
      simp only [decide_eq_true c4, Bool.not_true, if_pos c3]
      refine Ev.step (fun k => rfl) ?_
      simp only [impl_MarginAt.j0, Bool.false_eq_true, if_false]
      refine Ev.bind (implSub_ev o.good l o.len) ?_
      simp only [if_pos c5, if_pos c3.2]
      refine Ev.bind (implChildren_ev t _ (by omega)) ?_
      have cl := children_length t (par t b)
      exact implMarginL_ev _ _ b (by unfold par at cl; omega) (fun k hk => by have := (children_mem t _ k).1 hk; omega) c5 (by omega) 0
    · have c4 : ¬ (1 ≤ b ∧ b ≤ (t.length : Int) - 1) := by omega
      simp only [decide_eq_false c4, Bool.not_false, if_neg c3]
      refine Ev.one fun k => ?_
      simp only [impl_MarginAt.j0, if_true]

end Go.Proofs.Ytnakodhmpacpdaa.Pure
