/-
MoveVote in plain Lean.
Conditions: none beyond each lemma's own premises.
-/
import Derived.Test.YtnakodhmpacpdaaGhA
import Derived.Test.YtnakodhmpacpdaaQ0
import Derived.Test.YtnakodhmpacpdaaQ8
import Derived.Test.YtnakodhmpacpdaaQ10
import Derived.Test.YtnakodhmpacpdaaQ11
namespace Go.Proofs.Ytnakodhmpacpdaa.Pure
open Go.RowKit Go.Proofs.Ytnakodhmpacpdaa.Q Go.Proofs.Ytnakodhmpacpdaa.Gen Go.Proofs.YtnakodhmpacpdaaW.PrintWords Go.Proofs.YtnakodhmpacpdaaW.PrintLast
set_option linter.unusedVariables false
set_option linter.unusedSimpArgs false

/-! ### MoveVote -/
noncomputable def moveA (t : List B) (l : List Int) (a b n : Int) : List Int × Bool :=
  if ownT t l = true ∧ (0 ≤ a ∧ a < (t.length : Int)) ∧ (0 ≤ b ∧ b < (t.length : Int)) ∧ 0 ≤ n ∧ n ≤ 100000 then
    (if ownT t ((l.set a.toNat (wrap64 (rd l a - n))).set b.toNat (wrap64 (rd (l.set a.toNat (wrap64 (rd l a - n))) b + n))) = true then
      ((l.set a.toNat (wrap64 (rd l a - n))).set b.toNat (wrap64 (rd (l.set a.toNat (wrap64 (rd l a - n))) b + n)), true) else ([], false)) else ([], false)
theorem moveA_length (t : List B) (l : List Int) (a b n : Int) (hl : l.length ≤ 1048576) : (moveA t l a b n).1.length ≤ 1048576 := by
  unfold moveA
  split
  · split
    · simp; exact hl
    · simp
  · simp
theorem specMove_ev (t : List B) (l : List Int) (a b n : Int) (ht : t.length ≤ 1048576) (hl : l.length ≤ 1048576) : Ev (fun k => spec_MoveVote.f k t l a b n) (moveA t l a b n) := by
  have fls : Ev (fun k => spec_MoveVote.j0 k t l a b n true) ([], false) := Ev.one fun k => by simp only [spec_MoveVote.j0, if_true]
  unfold spec_MoveVote.f moveA
  refine Ev.bind (specOwn_ev t l ht hl) ?_
  cases ho : ownT t l with
  | false => simp only [Bool.false_eq_true, if_false, false_and]; exact fls
  | true =>
    have o := ownT_iff.1 ho
    simp only [if_true, true_and]
    by_cases c1 : 0 ≤ a ∧ a < (t.length : Int)
    · by_cases c2 : 0 ≤ b ∧ b < (t.length : Int)
      · have a1 : ¬ a < 0 := by omega
        have a2 : ¬ a ≥ (t.length : Int) := by omega
        have b1 : ¬ b < 0 := by omega
        have b2 : ¬ b ≥ (t.length : Int) := by omega
        simp only [if_neg a1, if_neg a2, if_neg b1, if_neg b2, l1In_eq, Option.bind_some, c1, c2, true_and, and_self]
        by_cases c3 : 0 ≤ n ∧ n ≤ 100000
        · have z1 : ([] : List Int).length + l.length < 17592186044416 := by simp; omega
          have z2 : a < (l.length : Int) := by have := o.len; omega
          have z3 : b < (l.length : Int) := by have := o.len; omega
          simp only [decide_eq_true c3, Bool.not_true, if_pos c3]
          refine Ev.step (fun k => rfl) ?_
          simp only [spec_MoveVote.j0, Bool.false_eq_true, if_false, Option.bind_some, if_pos z1, List.nil_append, if_pos c1.1, if_pos z2, if_pos c2.1, if_pos z3]
          refine Ev.bind (specOwn_ev t _ ht (by simp; exact hl)) ?_
          split <;> exact Ev.now _
        · simp only [decide_eq_false c3, Bool.not_false, if_neg c3]
          exact fls
      · simp only [c2, false_and, and_false, if_false]
        by_cases a1 : a < 0
        · simp only [if_pos a1]; exact fls
        · simp only [if_neg a1]
          by_cases a2 : a ≥ (t.length : Int)
          · simp only [if_pos a2]; exact fls
          · simp only [if_neg a2]
            by_cases b1 : b < 0
            · simp only [if_pos b1]; exact fls
            · have b2 : b ≥ (t.length : Int) := by omega
              simp only [if_neg b1, if_pos b2]
              exact fls
    · simp only [c1, false_and, if_false]
      by_cases a1 : a < 0
      · simp only [if_pos a1]; exact fls
      · have a2 : a ≥ (t.length : Int) := by omega
        simp only [if_neg a1, if_pos a2]
        exact fls
theorem implMove_ev (t : List B) (l : List Int) (a b n : Int) (ht : t.length ≤ 1048576) (hl : l.length ≤ 1048576) : Ev (fun k => impl_MoveVote.f k t l a b n) (moveA t l a b n) := by
  have fls : Ev (fun k => impl_MoveVote.j0 k t l a b n true) ([], false) := Ev.one fun k => by simp only [impl_MoveVote.j0, if_true]
  have hw : wrap64 ((t.length : Int) - 1) = (t.length : Int) - 1 := wrap_id (by omega) (by omega)
  unfold impl_MoveVote.f moveA
  refine Ev.bind (implOwn_ev t l) ?_
  cases ho : ownT t l with
  | false => simp only [Bool.false_eq_true, if_false, false_and]; exact fls
  | true =>
    have o := ownT_iff.1 ho
    have ea : (0 ≤ a ∧ a ≤ (t.length : Int) - 1) ↔ (0 ≤ a ∧ a < (t.length : Int)) := by omega
    have eb : (0 ≤ b ∧ b ≤ (t.length : Int) - 1) ↔ (0 ≤ b ∧ b < (t.length : Int)) := by omega
    simp only [if_true, true_and, within_eq, Option.bind_some, hw, ea, eb]
    by_cases c1 : 0 ≤ a ∧ a < (t.length : Int)
    · by_cases c2 : 0 ≤ b ∧ b < (t.length : Int)
      · by_cases c3 : 0 ≤ n ∧ n ≤ 100000
        · have z1 : l.length < 17592186044416 := by omega
          have z2 : a < (l.length : Int) := by have := o.len; omega
          have z3 : b < (l.length : Int) := by have := o.len; omega
          simp only [c1, c2, c3, and_self, decide_true, if_true, Bool.not_true]
          refine Ev.step (fun k => rfl) ?_
          simp only [impl_MoveVote.j0, slices_Clone_int_int.f, Bool.false_eq_true, if_false, Option.bind_some, if_pos z1, if_pos c1.1, if_pos z2, if_pos c2.1, if_pos z3]
          refine Ev.bind (implOwn_ev t _) ?_
          split <;> exact Ev.now _
        · simp only [c1, c2, c3, and_self, decide_true, decide_false, if_true, Bool.not_false, and_false, if_false]
          exact fls
      · simp only [c1, c2, and_self, decide_true, decide_false, if_true, Bool.false_eq_true, if_false, false_and, and_false]
        exact fls
    · simp only [c1, decide_false, Bool.false_eq_true, if_false, false_and]
      exact fls

end Go.Proofs.Ytnakodhmpacpdaa.Pure
