/-
Own weights and subtree weights, in plain Lean.
Conditions: none beyond each lemma's own premises.
-/
import Derived.Test.YtnakodhmpacpdaaTreeA
import Derived.Test.YtnakodhmpacpdaaQ0
import Derived.Test.YtnakodhmpacpdaaQ8
import Derived.Test.YtnakodhmpacpdaaQ10
import Derived.Test.YtnakodhmpacpdaaQ14
namespace Go.Proofs.Ytnakodhmpacpdaa.Pure
open Go.RowKit Go.Proofs.Ytnakodhmpacpdaa.Q Go.Proofs.Ytnakodhmpacpdaa.Gen Go.Proofs.YtnakodhmpacpdaaW.PrintWords Go.Proofs.YtnakodhmpacpdaaW.PrintLast
set_option linter.unusedVariables false
set_option linter.unusedSimpArgs false

theorem l1All_ev (l : List Int) (lo hi : Int) (hl : l.length ≤ 9223372036854775806) : Ev (fun k => spec_l1All.f k l lo hi) (l.all fun n => decide (lo ≤ n ∧ n ≤ hi)) := by
  unfold spec_l1All.f
  refine ev_list (σ := Unit) (fun k _ i => spec_l1All.l0 k lo hi l (l.length : Int) i) (fun xs _ => xs.all fun n => decide (lo ≤ n ∧ n ≤ hi)) l ?_ ?_ ()
  · intro s
    refine Ev.one fun k => ?_
    simp only [spec_l1All.l0]
    rw [if_neg (by omega)]
    rfl
  · intro i x xs s hd hi' hx h
    have c1 : (i : Int) < (l.length : Int) := by omega
    have c2 : (0 : Int) ≤ (i : Int) := by omega
    have hw : wrap64 ((i : Int) + 1) = (i : Int) + 1 := wrap_id (by omega) (by omega)
    refine Ev.step (fun k => rfl) ?_
    simp only [spec_l1All.l0, if_pos c1, if_pos c2, l1In_eq, Option.bind_some, rd_at hx, hw, List.all_cons]
    by_cases hc : lo ≤ x ∧ x ≤ hi
    · simp only [hc, and_self, decide_true, if_true, Bool.true_and]
      exact h ()
    · simp only [hc, decide_false, Bool.false_eq_true, if_false, Bool.false_and]
      exact Ev.now false

/-- Own weights of a good tree. -/
noncomputable def ownT (t : List B) (l : List Int) : Bool := goodT t && (decide ((l.length : Int) = (t.length : Int)) && l.all fun n => decide (0 ≤ n ∧ n ≤ 100000))
structure Own (t : List B) (l : List Int) : Prop where
  good : GT t
  len : l.length = t.length
  all : ∀ x ∈ l, 0 ≤ x ∧ x ≤ 100000
theorem ownT_iff {t : List B} {l : List Int} : ownT t l = true ↔ Own t l := by
  unfold ownT
  rw [Bool.and_eq_true, Bool.and_eq_true, goodT_true, decide_eq_true_eq, List.all_eq_true]
  constructor
  · rintro ⟨a, b, c⟩
    exact ⟨a, by omega, fun x hx => by simpa using c x hx⟩
  · rintro ⟨a, b, c⟩
    exact ⟨a, by omega, fun x hx => by simpa using c x hx⟩

theorem specOwn_ev (t : List B) (l : List Int) (ht : t.length ≤ 1048576) (hl : l.length ≤ 1048576) : Ev (fun k => spec_l7Own.f k t l) (ownT t l) := by
  unfold spec_l7Own.f ownT
  refine Ev.bind (specGoodTree_ev t (by omega)) ?_
  cases hg : goodT t with
  | false => simp only [Bool.false_eq_true, if_false, Bool.false_and]; exact Ev.now _
  | true =>
    simp only [if_true, Bool.true_and]
    by_cases h : (l.length : Int) = (t.length : Int)
    · simp only [if_pos h, decide_eq_true h, Bool.true_and]
      exact Ev.bind (l1All_ev l 0 100000 (by omega)) (Ev.now _)
    · simp only [if_neg h, decide_eq_false h, Bool.false_and]
      exact Ev.now _

theorem implOwn_ev (t : List B) (l : List Int) : Ev (fun k => impl_areOwn.f k t l) (ownT t l) := by
  unfold impl_areOwn.f ownT
  refine Ev.bind (implIsTree_ev t) ?_
  cases hg : goodT t with
  | false => simp only [Bool.false_eq_true, if_false, Bool.false_and]; exact Ev.now _
  | true =>
    simp only [if_true, Bool.true_and]
    by_cases h : (l.length : Int) = (t.length : Int)
    · have hp : ∀ x ∈ l, impl_areOwn_1.f x = some (!decide (0 ≤ x ∧ x ≤ 100000)) := fun x _ => by
        unfold impl_areOwn_1.f
        rw [within_eq]
        rfl
      simp only [if_pos h, decide_eq_true h, Bool.true_and, anyO_total hp, Option.bind_some]
      refine (Ev.now _).cast ?_
      rw [List.all_eq_not_any_not]
    · simp only [if_neg h, decide_eq_false h, Bool.false_and]
      exact Ev.now _

/-! ### subtree weights -/
/-- The blocks m, m - 1, .., 1, each added to its parent's. -/
def subL (t : List B) : Nat → List Int → List Int
  | 0, x => x
  | m + 1, x => subL t m (x.set (par t ((m + 1 : Nat) : Int)).toNat (wrap64 (rd x (par t ((m + 1 : Nat) : Int)) + rd x ((m + 1 : Nat) : Int))))
theorem subL_length (t : List B) : ∀ (m : Nat) (x : List Int), (subL t m x).length = x.length
  | 0, x => rfl
  | m + 1, x => by unfold subL; rw [subL_length t m, List.length_set]
def subW (t : List B) (x : List Int) : List Int := subL t (t.length - 1) x
theorem subW_length (t : List B) (x : List Int) : (subW t x).length = x.length := subL_length _ _ _

theorem implSubL_ev {t : List B} (hg : GT t) : ∀ (m : Nat) (x : List Int), m < t.length → x.length = t.length → Ev (fun k => impl_subWeights.l0 k t x (m : Int)) (subL t m x) := by
  intro m
  induction m with
  | zero =>
    intro x _ _
    refine Ev.one fun k => ?_
    simp only [impl_subWeights.l0]
    rw [if_neg (by omega)]
    rfl
  | succ m ih =>
    intro x hm hx
    have a := hg.par0 ((m + 1 : Nat) : Int) (by omega) (by omega)
    have b := hg.par1 ((m + 1 : Nat) : Int) (by omega) (by omega)
    have hi := hg.hi
    have c1 : ((m + 1 : Nat) : Int) > 0 := by omega
    have c2 : (0 : Int) ≤ ((m + 1 : Nat) : Int) := by omega
    have c3 : ((m + 1 : Nat) : Int) < (t.length : Int) := by omega
    have c4 : (0 : Int) ≤ (rd_T55 t ((m + 1 : Nat) : Int)).f0 := a
    have c5 : (rd_T55 t ((m + 1 : Nat) : Int)).f0 < (x.length : Int) := by unfold par at b; omega
    have c6 : ((m + 1 : Nat) : Int) < (x.length : Int) := by omega
    have hw : wrap64 (((m + 1 : Nat) : Int) - 1) = (m : Int) := by rw [wrap_id (by omega) (by omega)]; omega
    refine Ev.step (fun k => rfl) ?_
    simp only [impl_subWeights.l0, if_pos c1, if_pos c2, if_pos c3, if_pos c4, if_pos c5, if_pos c6, hw]
    exact ih _ (by omega) (by rw [List.length_set]; exact hx)

theorem implSub_ev {t : List B} (hg : GT t) (x : List Int) (hx : x.length = t.length) : Ev (fun k => impl_subWeights.f k t x) (subW t x) := by
  have hi := hg.hi
  have lo := hg.lo
  have c : x.length < 17592186044416 := by omega
  have hw : wrap64 ((t.length : Int) - 1) = ((t.length - 1 : Nat) : Int) := by rw [wrap_id (by omega) (by omega)]; omega
  unfold impl_subWeights.f slices_Clone_int_int.f
  simp only [if_pos c, Option.bind_some, hw]
  exact implSubL_ev hg _ x (by omega) hx

theorem specSubL_ev {t : List B} (hg : GT t) : ∀ (m : Nat) (x : List Int), m < t.length → x.length = t.length → Ev (fun k => spec_l7Sub.l0 k t x (m : Int)) (subL t m x) := by
  intro m
  induction m with
  | zero =>
    intro x _ _
    refine Ev.one fun k => ?_
    simp only [spec_l7Sub.l0]
    rw [if_neg (by omega)]
    rfl
  | succ m ih =>
    intro x hm hx
    have a := hg.par0 ((m + 1 : Nat) : Int) (by omega) (by omega)
    have b := hg.par1 ((m + 1 : Nat) : Int) (by omega) (by omega)
    have hi := hg.hi
    have c1 : ((m + 1 : Nat) : Int) > 0 := by omega
    have c2 : (0 : Int) ≤ ((m + 1 : Nat) : Int) := by omega
    have c3 : ((m + 1 : Nat) : Int) < (t.length : Int) := by omega
    have c4 : (0 : Int) ≤ (rd_T55 t ((m + 1 : Nat) : Int)).f0 := a
    have c5 : (rd_T55 t ((m + 1 : Nat) : Int)).f0 < (x.length : Int) := by unfold par at b; omega
    have c6 : ((m + 1 : Nat) : Int) < (x.length : Int) := by omega
    have hw : wrap64 (((m + 1 : Nat) : Int) - 1) = (m : Int) := by rw [wrap_id (by omega) (by omega)]; omega
    refine Ev.step (fun k => rfl) ?_
    simp only [spec_l7Sub.l0, if_pos c1, if_pos c2, if_pos c3, if_pos c4, if_pos c5, if_pos c6, hw]
    exact ih _ (by omega) (by rw [List.length_set]; exact hx)

theorem specSub_ev {t : List B} (hg : GT t) (x : List Int) (hx : x.length = t.length) : Ev (fun k => spec_l7Sub.f k t x) (subW t x) := by
  have hi := hg.hi
  have lo := hg.lo
  have c : ([] : List Int).length + x.length < 17592186044416 := by simp; omega
  have hw : wrap64 ((t.length : Int) - 1) = ((t.length - 1 : Nat) : Int) := by rw [wrap_id (by omega) (by omega)]; omega
  unfold spec_l7Sub.f
  simp only [Option.bind_some, if_pos c, hw, List.nil_append]
  exact specSubL_ev hg _ x (by omega) hx

end Go.Proofs.Ytnakodhmpacpdaa.Pure
