/-
The votes of some slots, in plain Lean.
Conditions: none beyond each lemma's own premises.
-/
import Derived.Test.YthojcglddmadiaaPoolA
import Derived.Test.YthojcglddmadiaaQ0
import Derived.Test.YthojcglddmadiaaQ34
import Derived.Test.YthojcglddmadiaaQ36
namespace Go.Proofs.Ythojcglddmadiaa.Pure
open Go.RowKit Go.Proofs.Ythojcglddmadiaa.Q Go.Proofs.Ythojcglddmadiaa.Gen Go.Proofs.YthojcglddmadiaaW.PrintWords Go.Proofs.YthojcglddmadiaaW.PrintLast
set_option linter.unusedVariables false
set_option linter.unusedSimpArgs false

def inS (a b : Int) (l : List V) : List V := l.filter fun v => decide (a ≤ v.f1 ∧ v.f1 ≤ b)
theorem inS_length (a b : Int) (l : List V) : (inS a b l).length ≤ l.length := List.length_filter_le _ _
theorem inS_cons (a b : Int) (v : V) (l : List V) : inS a b (v :: l) = if a ≤ v.f1 ∧ v.f1 ≤ b then v :: inS a b l else inS a b l := by
  unfold inS
  by_cases h : a ≤ v.f1 ∧ v.f1 ≤ b
  · rw [List.filter_cons_of_pos (by simpa using h), if_pos h]
  · rw [List.filter_cons_of_neg (by simpa using h), if_neg h]
theorem votesIn_ev (l : List V) (a b : Int) (hl : l.length ≤ 1048576) : Ev (fun k => impl_votesIn.f k l a b) (inS a b l) := by
  unfold impl_votesIn.f
  refine (ev_list_inv (σ := List V) (fun k s i => impl_votesIn.l0 k a b l (l.length : Int) i s) (fun xs s => s ++ inS a b xs) (fun i s => s.length ≤ i) l ?_ ?_ [] (by simp)).cast (by simp)
  · intro s _
    refine Ev.one fun k => ?_
    simp only [impl_votesIn.l0]
    rw [if_neg (by omega)]
    simp [inS]
  · intro i x xs s hs hd hi hx h
    have c1 : (i : Int) < (l.length : Int) := by omega
    have c2 : (0 : Int) ≤ (i : Int) := by omega
    have c3 : s.length < 5864062014805 := by omega
    have hw : wrap64 ((i : Int) + 1) = (i : Int) + 1 := wrap_id (by omega) (by omega)
    have hr : rd_T86 l (i : Int) = x := getD_at l z86 hx
    refine Ev.step (fun k => rfl) ?_
    simp only [impl_votesIn.l0, if_pos c1, if_pos c2, hr, hw, within_eq, Option.bind_some, if_pos c3]
    rw [inS_cons]
    by_cases e : a ≤ x.f1 ∧ x.f1 ≤ b
    · simp only [decide_eq_true e, if_true, if_pos e]
      exact (h (s ++ [x]) (by simp; omega)).cast (by simp)
    · simp only [decide_eq_false e, Bool.false_eq_true, if_false, if_neg e]
      exact h s (by omega)
theorem l8Within_ev (l : List V) (a b : Int) (hl : l.length ≤ 1048576) : Ev (fun k => spec_l8Within.f k l a b) (inS a (b - 1) l) := by
  unfold spec_l8Within.f
  refine (ev_list_inv (σ := List V) (fun k s i => spec_l8Within.l0 k a b s l (l.length : Int) i) (fun xs s => s ++ inS a (b - 1) xs) (fun i s => s.length ≤ i) l ?_ ?_ [] (by simp)).cast (by simp)
  · intro s _
    refine Ev.one fun k => ?_
    simp only [spec_l8Within.l0]
    rw [if_neg (by omega)]
    simp [inS]
  · intro i x xs s hs hd hi hx h
    have c1 : (i : Int) < (l.length : Int) := by omega
    have c2 : (0 : Int) ≤ (i : Int) := by omega
    have c3 : s.length < 5864062014805 := by omega
    have hw : wrap64 ((i : Int) + 1) = (i : Int) + 1 := wrap_id (by omega) (by omega)
    have hr : rd_T86 l (i : Int) = x := getD_at l z86 hx
    refine Ev.step (fun k => rfl) ?_
    simp only [spec_l8Within.l0, if_pos c1, if_pos c2, hr, hw, if_pos c3]
    rw [inS_cons]
    by_cases e1 : x.f1 ≥ a
    · simp only [if_pos e1]
      by_cases e2 : x.f1 < b
      · simp only [if_pos e2]
        refine (h (s ++ [x]) (by simp; omega)).cast ?_
        rw [if_pos (show a ≤ x.f1 ∧ x.f1 ≤ b - 1 by omega)]
        simp
      · simp only [if_neg e2]
        refine (h s (by omega)).cast ?_
        rw [if_neg (show ¬ (a ≤ x.f1 ∧ x.f1 ≤ b - 1) by omega)]
    · simp only [if_neg e1]
      refine (h s (by omega)).cast ?_
      rw [if_neg (show ¬ (a ≤ x.f1 ∧ x.f1 ≤ b - 1) by omega)]
def nowB (now keep : Int) : Bool := decide (1 ≤ now ∧ now ≤ 4000) && decide (1 ≤ keep ∧ keep ≤ 100)

end Go.Proofs.Ythojcglddmadiaa.Pure
