/-
The head and HeadFrom, in plain Lean.
Conditions: none beyond each lemma's own premises.
-/
import Derived.Test.YtnakodhmpacpdaaGhA
import Derived.Test.YtnakodhmpacpdaaGhC
import Derived.Test.YtnakodhmpacpdaaQ0
import Derived.Test.YtnakodhmpacpdaaQ23
import Derived.Test.YtnakodhmpacpdaaQ24
namespace Go.Proofs.Ytnakodhmpacpdaa.Pure
open Go.RowKit Go.Proofs.Ytnakodhmpacpdaa.Q Go.Proofs.Ytnakodhmpacpdaa.Gen Go.Proofs.YtnakodhmpacpdaaW.PrintWords Go.Proofs.YtnakodhmpacpdaaW.PrintLast
set_option linter.unusedVariables false
set_option linter.unusedSimpArgs false

/-! ### the head -/
def headN (t : List B) (sub : List Int) : Nat → Int → Int
  | 0, b => b
  | n + 1, b => if hv t sub b ≥ 0 then headN t sub n (hv t sub b) else b
def head (t : List B) (sub : List Int) (b : Int) : Int := headN t sub t.length b

theorem implHeadL_ev {t : List B} (hg : GT t) (sub : List Int) (hs : sub.length = t.length) : ∀ (n : Nat) (b : Int), 0 ≤ b → b < t.length → (t.length : Int) - b ≤ n →
    Ev (fun k => impl_headFrom.l0 k t b sub (hv t sub b)) (headN t sub n b) := by
  intro n
  induction n with
  | zero => intro b h0 h1 h2; omega
  | succ n ih =>
    intro b h0 h1 h2
    refine Ev.step (fun k => rfl) ?_
    unfold headN
    by_cases c : hv t sub b ≥ 0
    · have := hv_gt hg sub b c h0
      simp only [impl_headFrom.l0, if_pos c]
      refine Ev.bind (implHeaviest_ev hg sub hs _) ?_
      exact ih _ c this.2 (by omega)
    · simp only [impl_headFrom.l0, if_neg c]
      exact Ev.now _
theorem specHeadL_ev {t : List B} (hg : GT t) (sub : List Int) (hs : sub.length = t.length) : ∀ (n : Nat) (b : Int), 0 ≤ b → b < t.length → (t.length : Int) - b ≤ n →
    Ev (fun k => spec_l7Head.l0 k t b sub (hv t sub b)) (headN t sub n b) := by
  intro n
  induction n with
  | zero => intro b h0 h1 h2; omega
  | succ n ih =>
    intro b h0 h1 h2
    refine Ev.step (fun k => rfl) ?_
    unfold headN
    by_cases c : hv t sub b ≥ 0
    · have := hv_gt hg sub b c h0
      simp only [spec_l7Head.l0, if_pos c]
      refine Ev.bind (specHeaviest_ev hg sub hs _ c) ?_
      exact ih _ c this.2 (by omega)
    · simp only [spec_l7Head.l0, if_neg c]
      exact Ev.now _

theorem implHead_ev {t : List B} (hg : GT t) (own : List Int) (hs : own.length = t.length) (b : Int) (h0 : 0 ≤ b) (h1 : b < t.length) : Ev (fun k => impl_headFrom.f k t own b) (head t (subW t own) b) := by
  unfold impl_headFrom.f
  refine Ev.bind (implSub_ev hg own hs) ?_
  refine Ev.bind (implHeaviest_ev hg _ (by rw [subW_length]; exact hs) b) ?_
  exact implHeadL_ev hg _ (by rw [subW_length]; exact hs) _ b h0 h1 (by omega)
theorem specHead_ev {t : List B} (hg : GT t) (own : List Int) (hs : own.length = t.length) (b : Int) (h0 : 0 ≤ b) (h1 : b < t.length) : Ev (fun k => spec_l7Head.f k t own b) (head t (subW t own) b) := by
  unfold spec_l7Head.f
  refine Ev.bind (specSub_ev hg own hs) ?_
  refine Ev.bind (specHeaviest_ev hg _ (by rw [subW_length]; exact hs) b h0) ?_
  exact specHeadL_ev hg _ (by rw [subW_length]; exact hs) _ b h0 h1 (by omega)

noncomputable def headFromA (t : List B) (l : List Int) (b : Int) : Int × Bool := if ownT t l = true ∧ 0 ≤ b ∧ b < t.length then (head t (subW t l) b, true) else (0, false)
theorem specHeadFrom_ev (t : List B) (l : List Int) (b : Int) (ht : t.length ≤ 1048576) (hl : l.length ≤ 1048576) : Ev (fun k => spec_HeadFrom.f k t l b) (headFromA t l b) := by
  unfold spec_HeadFrom.f headFromA
  refine Ev.bind (specOwn_ev t l ht hl) ?_
  cases ho : ownT t l with
  | false => simp only [Bool.false_eq_true, if_false, false_and]; exact Ev.now _
  | true =>
    have o := ownT_iff.1 ho
    simp only [if_true, true_and]
    by_cases c1 : b < 0
    · have : ¬ (0 ≤ b ∧ b < (t.length : Int)) := by omega
      simp only [if_pos c1, if_neg this]
      exact Ev.now _
    · by_cases c2 : b ≥ (t.length : Int)
      · have : ¬ (0 ≤ b ∧ b < (t.length : Int)) := by omega
        simp only [if_neg c1, if_pos c2, if_neg this]
        exact Ev.now _
      · have c3 : 0 ≤ b ∧ b < (t.length : Int) := by omega
        simp only [if_neg c1, if_neg c2, if_pos c3]
        exact Ev.bind (specHead_ev o.good l o.len b c3.1 c3.2) (Ev.now _)
theorem implHeadFrom_ev (t : List B) (l : List Int) (b : Int) (ht : t.length ≤ 1048576) : Ev (fun k => impl_HeadFrom.f k t l b) (headFromA t l b) := by
  unfold impl_HeadFrom.f headFromA
  refine Ev.bind (implOwn_ev t l) ?_
  cases ho : ownT t l with
  | false => simp only [Bool.false_eq_true, if_false, false_and]; exact Ev.now _
  | true =>
    have o := ownT_iff.1 ho
    have hw : wrap64 ((t.length : Int) - 1) = (t.length : Int) - 1 := wrap_id (by omega) (by omega)
    simp only [if_true, true_and, within_eq, Option.bind_some, hw]
    by_cases c3 : 0 ≤ b ∧ b < (t.length : Int)
    · have c4 : 0 ≤ b ∧ b ≤ (t.length : Int) - 1 := by omega
      simp only [decide_eq_true c4, if_true, if_pos c3]
      exact Ev.bind (implHead_ev o.good l o.len b c3.1 c3.2) (Ev.now _)
    · have c4 : ¬ (0 ≤ b ∧ b ≤ (t.length : Int) - 1) := by omega
      simp only [decide_eq_false c4, Bool.false_eq_true, if_false, if_neg c3]
      exact Ev.now _

end Go.Proofs.Ytnakodhmpacpdaa.Pure
