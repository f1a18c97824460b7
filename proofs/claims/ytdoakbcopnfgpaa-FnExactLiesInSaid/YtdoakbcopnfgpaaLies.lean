/-
The proofs that links break the rules, in plain Lean.
Conditions: none beyond each lemma's own premises.
-/
import Derived.Test.YtdoakbcopnfgpaaLie
import Derived.Test.YtdoakbcopnfgpaaQ0
import Derived.Test.YtdoakbcopnfgpaaQ10
import Derived.Test.YtdoakbcopnfgpaaQ21
namespace Go.Proofs.Ytdoakbcopnfgpaa.Pure
open Go.RowKit Go.Proofs.Ytdoakbcopnfgpaa.Q Go.Proofs.Ytdoakbcopnfgpaa.Gen Go.Proofs.YtdoakbcopnfgpaaW.PrintWords Go.Proofs.YtdoakbcopnfgpaaW.PrintLast
set_option linter.unusedVariables false
set_option linter.unusedSimpArgs false

abbrev PF := S58
/-- The proofs against a in a list. -/
def liesA (t : List B) (a : L) (l : List L) : List PF := (l.filter (lieB t a)).map fun b => ⟨a, b⟩
def liesL (t : List B) : List L → List PF
  | [] => []
  | a :: l => liesA t a l ++ liesL t l
theorem liesA_mem {t : List B} {a : L} {l : List L} {p : PF} (h : p ∈ liesA t a l) : p.f0 = a ∧ p.f1 ∈ l ∧ lieB t a p.f1 = true := by
  unfold liesA at h
  obtain ⟨b, hb, rfl⟩ := List.mem_map.1 h
  have := List.mem_filter.1 hb
  exact ⟨rfl, this.1, this.2⟩
theorem liesL_mem {t : List B} : ∀ {l : List L} {p : PF}, p ∈ liesL t l → p.f0 ∈ l ∧ p.f1 ∈ l ∧ lieB t p.f0 p.f1 = true
  | [], p, h => by simp [liesL] at h
  | a :: l, p, h => by
    unfold liesL at h
    rcases List.mem_append.1 h with h | h
    · obtain ⟨e, h1, h2⟩ := liesA_mem h
      exact ⟨by rw [e]; simp, by simp [h1], by rw [e]; exact h2⟩
    · obtain ⟨h1, h2, h3⟩ := liesL_mem h
      exact ⟨by simp [h1], by simp [h2], h3⟩
theorem liesA_cons (t : List B) (a b : L) (l : List L) : liesA t a (b :: l) = if lieB t a b = true then ⟨a, b⟩ :: liesA t a l else liesA t a l := by
  unfold liesA
  cases h : lieB t a b with
  | true => rw [List.filter_cons_of_pos h, if_pos rfl]; rfl
  | false => rw [List.filter_cons_of_neg (by simp [h]), if_neg (by simp)]
theorem specLies_ev {t : List B} (hg : GT t) (l : List L) (hl : l.length ≤ 40) (hin : ∀ x ∈ l, InT t x) : Ev (fun k => spec_l11Lies.f k t l) (liesL t l) := by
  have key : ∀ (n i : Nat), l.length - i = n → i ≤ l.length → ∀ s : List PF, s.length ≤ 64 * i → Ev (fun k => spec_l11Lies.l0 k t l s l (l.length : Int) (i : Int)) (s ++ liesL t (l.drop i)) := by
    intro n
    induction n with
    | zero =>
      intro i h1 h2 s hs
      obtain rfl : i = l.length := by omega
      refine Ev.one fun k => ?_
      simp only [spec_l11Lies.l0]
      rw [if_neg (by omega), List.drop_length]
      simp [liesL]
    | succ n ih =>
      intro i h1 h2 s hs
      have hi : i < l.length := by omega
      have c1 : (i : Int) < (l.length : Int) := by omega
      have c2 : (0 : Int) ≤ (i : Int) := by omega
      have hw : wrap64 ((i : Int) + 1) = ((i + 1 : Nat) : Int) := by rw [wrap_id (by omega) (by omega)]; omega
      have c3 : (0 : Int) ≤ ((i + 1 : Nat) : Int) := by omega
      have c4 : ((i + 1 : Nat) : Int) ≤ (l.length : Int) := by omega
      have hd : l.drop i = l[i] :: l.drop (i + 1) := List.drop_eq_getElem_cons hi
      have hr : rd_T53 l (i : Int) = l[i] := getD_at l z53 (List.getElem?_eq_getElem hi)
      have ia := hin l[i] (List.getElem_mem hi)
      have hy : (l.drop (i + 1)).length ≤ 40 := by simp; omega
      have hiny : ∀ x ∈ l.drop (i + 1), InT t x := fun x hx => hin x (List.mem_of_mem_drop hx)
      refine Ev.step (fun k => rfl) ?_
      simp only [spec_l11Lies.l0, if_pos c1, if_pos c2, hw, if_pos c3, if_pos c4, hr, Option.bind_some, Int.toNat_natCast]
      generalize hY : l.drop (i + 1) = y at *
      generalize l[i] = a at *
      refine (ev_list_inv (σ := List PF) (fun k s j => spec_l11Lies.l1 k t l s l (l.length : Int) (i : Int) y (y.length : Int) j a.f0 a.f1 a.f2) (fun ys s => s ++ (liesA t a ys ++ liesL t y)) (fun j s => s.length ≤ 64 * i + j) y ?_ ?_ s (by omega)).cast ?_
      · intro s hs
        have c5 : ¬ ((y.length : Int) < (y.length : Int)) := by omega
        refine Ev.step (fun k => rfl) ?_
        simp only [spec_l11Lies.l1, if_neg c5, hw]
        refine (ih (i + 1) (by omega) (by omega) s (by omega)).cast ?_
        rw [hY]
        rfl
      · intro j x xs s hs hdj hj hx h
        have c5 : (j : Int) < (y.length : Int) := by omega
        have c6 : (0 : Int) ≤ (j : Int) := by omega
        have hwj : wrap64 ((j : Int) + 1) = (j : Int) + 1 := wrap_id (by omega) (by omega)
        have hrj : rd_T53 y (j : Int) = x := getD_at y z53 hx
        have c7 : s.length < 2932031007402 := by omega
        refine Ev.step (fun k => rfl) ?_
        simp only [spec_l11Lies.l1, if_pos c5, if_pos c6, hrj, hwj, if_pos c7]
        refine Ev.bind (specLie_ev hg a x ia (hiny x (List.mem_of_getElem? hx))) ?_
        rw [liesA_cons]
        cases e : lieB t a x with
        | true =>
          simp only [if_true]
          refine (h (s ++ [⟨a, x⟩]) (by simp; omega)).cast ?_
          simp
        | false =>
          simp only [Bool.false_eq_true, if_false]
          exact h s (by omega)
      · rw [hd, liesL]
  unfold spec_l11Lies.f
  have := key l.length 0 (by omega) (by omega) [] (by simp)
  simpa using this
theorem implLies_ev {t : List B} (hg : GT t) (l : List L) (hl : l.length ≤ 40) (hin : ∀ x ∈ l, InT t x) : Ev (fun k => impl_liesIn.f k t l) (liesL t l) := by
  have key : ∀ (n i : Nat), l.length - i = n → i ≤ l.length → ∀ s : List PF, s.length ≤ 64 * i → Ev (fun k => impl_liesIn.l0 k t l s l (l.length : Int) (i : Int)) (s ++ liesL t (l.drop i)) := by
    intro n
    induction n with
    | zero =>
      intro i h1 h2 s hs
      obtain rfl : i = l.length := by omega
      refine Ev.one fun k => ?_
      simp only [impl_liesIn.l0]
      rw [if_neg (by omega), List.drop_length]
      simp [liesL]
    | succ n ih =>
      intro i h1 h2 s hs
      have hi : i < l.length := by omega
      have c1 : (i : Int) < (l.length : Int) := by omega
      have c2 : (0 : Int) ≤ (i : Int) := by omega
      have hw : wrap64 ((i : Int) + 1) = ((i + 1 : Nat) : Int) := by rw [wrap_id (by omega) (by omega)]; omega
      have c3 : (0 : Int) ≤ ((i + 1 : Nat) : Int) := by omega
      have c4 : ((i + 1 : Nat) : Int) ≤ (l.length : Int) := by omega
      have hd : l.drop i = l[i] :: l.drop (i + 1) := List.drop_eq_getElem_cons hi
      have hr : rd_T53 l (i : Int) = l[i] := getD_at l z53 (List.getElem?_eq_getElem hi)
      have ia := hin l[i] (List.getElem_mem hi)
      have hy : (l.drop (i + 1)).length ≤ 40 := by simp; omega
      have hiny : ∀ x ∈ l.drop (i + 1), InT t x := fun x hx => hin x (List.mem_of_mem_drop hx)
      refine Ev.step (fun k => rfl) ?_
      simp only [impl_liesIn.l0, if_pos c1, if_pos c2, hw, if_pos c3, if_pos c4, hr, Option.bind_some, Int.toNat_natCast]
      generalize hY : l.drop (i + 1) = y at *
      generalize l[i] = a at *
      refine (ev_list_inv (σ := List PF) (fun k s j => impl_liesIn.l1 k t l s l (l.length : Int) (i : Int) y (y.length : Int) j a.f0 a.f1 a.f2) (fun ys s => s ++ (liesA t a ys ++ liesL t y)) (fun j s => s.length ≤ 64 * i + j) y ?_ ?_ s (by omega)).cast ?_
      · intro s hs
        have c5 : ¬ ((y.length : Int) < (y.length : Int)) := by omega
        refine Ev.step (fun k => rfl) ?_
        simp only [impl_liesIn.l1, if_neg c5, hw]
        refine (ih (i + 1) (by omega) (by omega) s (by omega)).cast ?_
        rw [hY]
        rfl
      · intro j x xs s hs hdj hj hx h
        have c5 : (j : Int) < (y.length : Int) := by omega
        have c6 : (0 : Int) ≤ (j : Int) := by omega
        have hwj : wrap64 ((j : Int) + 1) = (j : Int) + 1 := wrap_id (by omega) (by omega)
        have hrj : rd_T53 y (j : Int) = x := getD_at y z53 hx
        have c7 : s.length < 2932031007402 := by omega
        refine Ev.step (fun k => rfl) ?_
        simp only [impl_liesIn.l1, if_pos c5, if_pos c6, hrj, hwj, if_pos c7]
        refine Ev.bind (implLie_ev hg a x ia (hiny x (List.mem_of_getElem? hx))) ?_
        rw [liesA_cons]
        cases e : lieB t a x with
        | true =>
          simp only [if_true]
          refine (h (s ++ [⟨a, x⟩]) (by simp; omega)).cast ?_
          simp
        | false =>
          simp only [Bool.false_eq_true, if_false]
          exact h s (by omega)
      · rw [hd, liesL]
  unfold impl_liesIn.f
  have := key l.length 0 (by omega) (by omega) [] (by simp)
  simpa using this

end Go.Proofs.Ytdoakbcopnfgpaa.Pure
