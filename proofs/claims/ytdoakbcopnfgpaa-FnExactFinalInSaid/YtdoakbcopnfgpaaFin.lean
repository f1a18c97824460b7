/-
The final blocks, in plain Lean: the reference's and the program's are one.
Conditions: none beyond each lemma's own premises.
-/
import Derived.Test.YtdoakbcopnfgpaaJst
import Derived.Test.YtdoakbcopnfgpaaGhK
import Derived.Test.YtdoakbcopnfgpaaQ0
import Derived.Test.YtdoakbcopnfgpaaQ30
import Derived.Test.YtdoakbcopnfgpaaQ34
namespace Go.Proofs.Ytdoakbcopnfgpaa.Pure
open Go.RowKit Go.Proofs.Ytdoakbcopnfgpaa.Q Go.Proofs.Ytdoakbcopnfgpaa.Gen Go.Proofs.YtdoakbcopnfgpaaW.PrintWords Go.Proofs.YtdoakbcopnfgpaaW.PrintLast
set_option linter.unusedVariables false
set_option linter.unusedSimpArgs false

def finP (t : List B) (st : List Int) (l : List L) (a : Int) : Bool := (children t a).any fun b => great st (wsOf a b l)
def finals (t : List B) (st : List Int) (l : List L) : List Int := (justified t st l).filter (finP t st l)
theorem finals_mem {t : List B} (hg : GT t) (st : List Int) (l : List L) : ∀ x ∈ finals t st l, 0 ≤ x ∧ x < (t.length : Int) := fun x hx => justified_mem hg st l x (List.mem_filter.1 hx).1
theorem finals_length {t : List B} (hg : GT t) (st : List Int) (l : List L) : (finals t st l).length ≤ 24 := Nat.le_trans (List.length_filter_le _ _) (justified_length hg st l)
theorem jst_rise (st : List Int) (l : List L) : ∀ (n : Nat) (b : Int) (s : List Int), s.Pairwise (· < ·) → (∀ x ∈ s, x < b) → (jst st l n b s).Pairwise (· < ·)
  | 0, b, s, h, _ => h
  | n + 1, b, s, h, hb => by
    rw [jst]
    by_cases c : (s.any fun a => great st (wsOf a b l)) = true
    · rw [if_pos c]
      refine jst_rise st l n (b + 1) _ (List.pairwise_append.2 ⟨h, by simp, fun x hx y hy => ?_⟩) (fun x hx => ?_)
      · rw [List.mem_singleton.1 hy]; exact hb x hx
      · rcases List.mem_append.1 hx with hx | hx
        · have := hb x hx; omega
        · have := List.mem_singleton.1 hx; omega
    · rw [if_neg c]
      exact jst_rise st l n (b + 1) s h (fun x hx => by have := hb x hx; omega)
theorem finals_rise (t : List B) (st : List Int) (l : List L) : (finals t st l).Pairwise (· < ·) :=
  List.Pairwise.filter _ (jst_rise st l _ 1 [0] (by simp) (fun x hx => by have := List.mem_singleton.1 hx; omega))
theorem implFinal_ev {t : List B} {st : List Int} {l : List L} (g : GL t st l) : Ev (fun k => impl_finalIn.f k t st l) (finals t st l) := by
  have hi24 := g.tree.hi
  unfold impl_finalIn.f finals
  refine Ev.bind (implJust_ev g) ?_
  have hn := justified_length g.tree st l
  generalize justified t st l = y at *
  refine (ev_list_inv (σ := List Int) (fun k s i => impl_finalIn.l0 k t st l s y i) (fun xs s => s ++ xs.filter (finP t st l)) (fun i s => s.length ≤ i) y ?_ ?_ [] (by simp)).cast (by simp)
  · intro s _
    refine Ev.one fun k => ?_
    rw [impl_finalIn.l0, if_neg (by omega)]
    simp
  · intro i x xs s hs hd hi hx h
    have c1 : (i : Int) < (y.length : Int) := by omega
    have c2 : (0 : Int) ≤ (i : Int) := by omega
    have c3 : s.length < 17592186044416 := by omega
    have hw : wrap64 ((i : Int) + 1) = (i : Int) + 1 := wrap_id (by omega) (by omega)
    refine Ev.step (fun k => rfl) ?_
    simp only [impl_finalIn.l0, if_pos c1, if_pos c2, rd_at hx, hw, if_pos c3]
    refine Ev.bind (implChildren_ev t x (by omega)) ?_
    have hA : Ev (fun k => anyO (impl_finalIn_1.f k st l x) (children t x)) (finP t st l x) := anyO_ev (fun b _ => by unfold impl_finalIn_1.f; exact implIs_ev g x b)
    refine Ev.bind hA ?_
    clear hA
    cases e : finP t st l x with
    | true =>
      simp only [if_true]
      refine (h (s ++ [x]) (by simp; omega)).cast ?_
      rw [List.filter_cons_of_pos e]
      simp
    | false =>
      simp only [Bool.false_eq_true, if_false]
      refine (h s (by omega)).cast ?_
      rw [List.filter_cons_of_neg (by simp [e])]
set_option maxHeartbeats 4000000 in
theorem specFinal_ev {t : List B} {st : List Int} {l : List L} (g : GL t st l) : Ev (fun k => spec_l10Final.f k t st l) (finals t st l) := by
  have hi24 := g.tree.hi
  unfold spec_l10Final.f finals
  refine Ev.bind (specJust_ev g) ?_
  have hn := justified_length g.tree st l
  generalize justified t st l = y at *
  have key : ∀ (n i : Nat), y.length - i = n → i ≤ y.length → ∀ s : List Int, s.length ≤ i → Ev (fun k => spec_l10Final.l0 k t st l s y (y.length : Int) (i : Int)) (s ++ (y.drop i).filter (finP t st l)) := by
    intro n
    induction n with
    | zero =>
      intro i h1 h2 s hs
      obtain rfl : i = y.length := by omega
      refine Ev.one fun k => ?_
      rw [spec_l10Final.l0, if_neg (by omega), List.drop_length]
      simp
    | succ n ih =>
      intro i h1 h2 s hs
      have hi : i < y.length := by omega
      have c1 : (i : Int) < (y.length : Int) := by omega
      have c2 : (0 : Int) ≤ (i : Int) := by omega
      have c3 : s.length < 17592186044416 := by omega
      have hw : wrap64 ((i : Int) + 1) = ((i + 1 : Nat) : Int) := by rw [wrap_id (by omega) (by omega)]; omega
      have hd : y.drop i = y[i] :: y.drop (i + 1) := List.drop_eq_getElem_cons hi
      have hr : rd y (i : Int) = y[i] := rd_at (List.getElem?_eq_getElem hi)
      have inner : ∀ (m j : Nat) (fl : Bool), t.length - j = m → j ≤ t.length → Ev (fun k => spec_l10Final.l1 k t st l s y[i] fl y (y.length : Int) (i : Int) (t.length : Int) (j : Int)) ((if (fl || (chl y[i] (j : Int) (t.drop j)).any fun b => great st (wsOf y[i] b l)) = true then s ++ [y[i]] else s) ++ (y.drop (i + 1)).filter (finP t st l)) := by
        intro m
        induction m with
        | zero =>
          intro j fl h3 h4
          obtain rfl : j = t.length := by omega
          have c4 : ¬ ((t.length : Int) < (t.length : Int)) := by omega
          refine Ev.step (fun k => rfl) ?_
          simp only [spec_l10Final.l1, if_neg c4, hw, if_pos c3, List.drop_length, chl, List.any_nil, Bool.or_false]
          cases fl with
          | true => simp only [if_true]; exact ih (i + 1) (by omega) (by omega) _ (by simp; omega)
          | false => simp only [Bool.false_eq_true, if_false]; exact ih (i + 1) (by omega) (by omega) _ (by omega)
        | succ m ihm =>
          intro j fl h3 h4
          have hj : j < t.length := by omega
          have c4 : (j : Int) < (t.length : Int) := by omega
          have c5 : (0 : Int) ≤ (j : Int) := by omega
          have q1 : t.length - (j + 1) = m := by omega
          have q2 : j + 1 ≤ t.length := by omega
          have ej : (j : Int) + 1 = ((j + 1 : Nat) : Int) := by omega
          have hwj : wrap64 ((j : Int) + 1) = ((j + 1 : Nat) : Int) := by rw [wrap_id (by omega) (by omega)]; omega
          have hdj : t.drop j = t[j] :: t.drop (j + 1) := List.drop_eq_getElem_cons hj
          have hrj : rd_T49 t (j : Int) = t[j] := getD_at t z49 (List.getElem?_eq_getElem hj)
          refine Ev.step (fun k => rfl) ?_
          simp only [spec_l10Final.l1, if_pos c4, hwj, if_pos c5, hrj]
          rw [hdj, chl, ej]
          cases fl with
          | true =>
            simp only [if_true, Bool.true_or]
            have := ihm (j + 1) true q1 q2
            simp only [Bool.true_or, if_true] at this
            exact this
          | false =>
            simp only [Bool.false_eq_true, if_false, Bool.false_or]
            by_cases e : t[j].f0 = y[i]
            · simp only [if_pos e]
              refine Ev.bind (specIs_ev g y[i] (j : Int)) ?_
              have := ihm (j + 1) (great st (wsOf y[i] (j : Int) l)) q1 q2
              rw [List.any_cons]
              exact this
            · simp only [if_neg e]
              have := ihm (j + 1) false q1 q2
              simp only [Bool.false_or] at this
              exact this
      refine Ev.step (fun k => rfl) ?_
      simp only [spec_l10Final.l0, if_pos c1, if_pos c2, hr]
      refine (inner t.length 0 false (by omega) (by omega)).cast ?_
      rw [hd]
      simp only [Bool.false_or, List.drop_zero]
      have : (chl y[i] ((0 : Nat) : Int) t).any (fun b => great st (wsOf y[i] b l)) = finP t st l y[i] := rfl
      rw [this]
      cases e : finP t st l y[i] with
      | true => rw [List.filter_cons_of_pos e]; simp
      | false => rw [List.filter_cons_of_neg (by simp [e])]; simp
  exact (key y.length 0 (by omega) (by omega) [] (by simp)).cast (by simp)

end Go.Proofs.Ytdoakbcopnfgpaa.Pure
