/-
Good stakes, and a good tree with good stakes, in plain Lean.
Conditions: none beyond each lemma's own premises.
-/
import Derived.Test.YtdoakbcopnfgpaaTreeA
import Derived.Test.YtdoakbcopnfgpaaQ0
import Derived.Test.YtdoakbcopnfgpaaQ3
import Derived.Test.YtdoakbcopnfgpaaQ4
import Derived.Test.YtdoakbcopnfgpaaQ5
import Derived.Test.YtdoakbcopnfgpaaQ16
namespace Go.Proofs.Ytdoakbcopnfgpaa.Pure
open Go.RowKit Go.Proofs.Ytdoakbcopnfgpaa.Q Go.Proofs.Ytdoakbcopnfgpaa.Gen Go.Proofs.YtdoakbcopnfgpaaW.PrintWords Go.Proofs.YtdoakbcopnfgpaaW.PrintLast
set_option linter.unusedVariables false
set_option linter.unusedSimpArgs false

theorem l1AllL_ev (l : List Int) (lo hi : Int) (hl : l.length ≤ 9223372036854775806) : Ev (fun k => spec_l1All.f k l lo hi) (l.all fun n => decide (lo ≤ n ∧ n ≤ hi)) := by
  unfold spec_l1All.f
  refine ev_list (σ := Unit) (fun k _ i => spec_l1All.l0 k lo hi l (l.length : Int) i) (fun xs _ => xs.all fun n => decide (lo ≤ n ∧ n ≤ hi)) l ?_ ?_ ()
  · intro s
    refine Ev.one fun k => ?_
    simp only [spec_l1All.l0]
    rw [if_neg (by omega)]
    rfl
  · intro i x xs s hd hi' hx h
    have c1 : (i : Int) < (l.length : Int) := by omega
    have c2 : (0 : Int) ≤ (i : Int) := by omega
    have hw : wrap64 ((i : Int) + 1) = (i : Int) + 1 := wrap_id (by omega) (by omega)
    refine Ev.step (fun k => rfl) ?_
    simp only [spec_l1All.l0, if_pos c1, if_pos c2, rd_at hx, l1In_eq, Option.bind_some, hw, List.all_cons]
    by_cases hc : lo ≤ x ∧ x ≤ hi
    · simp only [decide_eq_true hc, if_true, Bool.true_and]
      exact h ()
    · simp only [decide_eq_false hc, Bool.false_eq_true, if_false, Bool.false_and]
      exact Ev.now false

theorem anyO_ev {α : Type} {p : Nat → α → Option Bool} {q : α → Bool} : ∀ {l : List α}, (∀ x ∈ l, Ev (fun k => p k x) (q x)) → Ev (fun k => anyO (p k) l) (l.any q)
  | [], _ => Ev.now false
  | x :: xs, h => by
    simp only [anyO]
    refine Ev.bind (h x (by simp)) ?_
    cases e : q x with
    | true => simp only [if_true]; exact (Ev.now true).cast (by simp [e])
    | false =>
      simp only [Bool.false_eq_true, if_false]
      exact (anyO_ev (l := xs) (fun y hy => h y (by simp [hy]))).cast (by simp [e])

/-- Good stakes. -/
def stakesB (l : List Int) : Bool := decide (1 ≤ (l.length : Int) ∧ (l.length : Int) ≤ 10) && l.all fun n => decide (1 ≤ n ∧ n ≤ 1000)
theorem specStakes_ev (l : List Int) (hl : l.length ≤ 1048576) : Ev (fun k => spec_GoodStakes.f k l) (stakesB l) := by
  unfold spec_GoodStakes.f stakesB
  simp only [l1In_eq, Option.bind_some]
  by_cases c : 1 ≤ (l.length : Int) ∧ (l.length : Int) ≤ 10
  · simp only [decide_eq_true c, if_true, Bool.true_and]
    exact Ev.bind (l1AllL_ev l 1 1000 (by omega)) (Ev.now _)
  · simp only [decide_eq_false c, Bool.false_eq_true, if_false, Bool.false_and]
    exact Ev.now _
theorem implStakes_eq (l : List Int) : impl_areStakes.f l = some (stakesB l) := by
  unfold impl_areStakes.f stakesB
  have hp : ∀ x ∈ l, impl_areStakes_1.f x = some (!decide (1 ≤ x ∧ x ≤ 1000)) := fun x _ => by
    unfold impl_areStakes_1.f
    rw [within_eq]
    rfl
  simp only [within_eq, Option.bind_some]
  by_cases c : 1 ≤ (l.length : Int) ∧ (l.length : Int) ≤ 10
  · simp only [decide_eq_true c, if_true, Bool.true_and, anyO_total hp, Option.bind_some]
    rw [List.all_eq_not_any_not]
  · simp only [decide_eq_false c, Bool.false_eq_true, if_false, Bool.false_and]

noncomputable def bothB (t : List B) (st : List Int) : Bool := goodT t && stakesB st
theorem specBoth_ev (t : List B) (st : List Int) (ht : t.length ≤ 1048576) (hs : st.length ≤ 1048576) : Ev (fun k => spec_l6Both.f k t st) (bothB t st) := by
  unfold spec_l6Both.f bothB
  refine Ev.bind (specGoodTree_ev t (by omega)) ?_
  cases hg : goodT t with
  | false => simp only [Bool.false_eq_true, if_false, Bool.false_and]; exact Ev.now _
  | true => simp only [if_true, Bool.true_and]; exact Ev.bind (specStakes_ev st hs) (Ev.now _)
theorem implBoth_ev (t : List B) (st : List Int) : Ev (fun k => impl_areBoth.f k t st) (bothB t st) := by
  unfold impl_areBoth.f bothB
  refine Ev.bind (implIsTree_ev t) ?_
  cases hg : goodT t with
  | false => simp only [Bool.false_eq_true, if_false, Bool.false_and]; exact Ev.now _
  | true => simp only [if_true, Bool.true_and, implStakes_eq, Option.bind_some]; exact Ev.now _

end Go.Proofs.Ytdoakbcopnfgpaa.Pure
