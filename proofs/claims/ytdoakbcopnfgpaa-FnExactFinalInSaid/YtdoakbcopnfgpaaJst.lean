/-
The justified blocks, in plain Lean: the reference's and the program's are one.
Conditions: none beyond each lemma's own premises.
-/
import Derived.Test.YtdoakbcopnfgpaaLnkQ
import Derived.Test.YtdoakbcopnfgpaaQ0
import Derived.Test.YtdoakbcopnfgpaaQ30
import Derived.Test.YtdoakbcopnfgpaaQ33
namespace Go.Proofs.Ytdoakbcopnfgpaa.Pure
open Go.RowKit Go.Proofs.Ytdoakbcopnfgpaa.Q Go.Proofs.Ytdoakbcopnfgpaa.Gen Go.Proofs.YtdoakbcopnfgpaaW.PrintWords Go.Proofs.YtdoakbcopnfgpaaW.PrintLast
set_option linter.unusedVariables false
set_option linter.unusedSimpArgs false

/-- From block b on, n more: those that a block of s is linked to by a quorum. -/
def jst (st : List Int) (l : List L) : Nat → Int → List Int → List Int
  | 0, _, s => s
  | n + 1, b, s => jst st l n (b + 1) (if (s.any fun a => great st (wsOf a b l)) = true then s ++ [b] else s)
def justified (t : List B) (st : List Int) (l : List L) : List Int := jst st l (t.length - 1) 1 [0]
theorem jst_mem (st : List Int) (l : List L) : ∀ (n : Nat) (b : Int) (s : List Int), 0 ≤ b → (∀ x ∈ s, 0 ≤ x ∧ x < b) → ∀ x ∈ jst st l n b s, 0 ≤ x ∧ x < b + n
  | 0, b, s, hb, h => fun x hx => by have := h x hx; omega
  | n + 1, b, s, hb, h => fun x hx => by
    unfold jst at hx
    have := jst_mem st l n (b + 1) _ (by omega) (fun y hy => by
      split at hy
      · rcases List.mem_append.1 hy with hy | hy
        · have := h y hy; omega
        · have := List.mem_singleton.1 hy; omega
      · have := h y hy; omega) x hx
    omega
theorem jst_length (st : List Int) (l : List L) : ∀ (n : Nat) (b : Int) (s : List Int), (jst st l n b s).length ≤ s.length + n
  | 0, b, s => by simp [jst]
  | n + 1, b, s => by
    rw [jst]
    by_cases c : (s.any fun a => great st (wsOf a b l)) = true
    · rw [if_pos c]
      have := jst_length st l n (b + 1) (s ++ [b])
      simp at this
      omega
    · rw [if_neg c]
      have := jst_length st l n (b + 1) s
      omega
theorem justified_mem {t : List B} (hg : GT t) (st : List Int) (l : List L) : ∀ x ∈ justified t st l, 0 ≤ x ∧ x < (t.length : Int) := fun x hx => by
  have lo := hg.lo
  have := jst_mem st l (t.length - 1) 1 [0] (by omega) (fun y hy => by have := List.mem_singleton.1 hy; omega) x hx
  omega
theorem justified_length {t : List B} (hg : GT t) (st : List Int) (l : List L) : (justified t st l).length ≤ 24 := by
  have lo := hg.lo
  have hi := hg.hi
  have := jst_length st l (t.length - 1) 1 [0]
  unfold justified
  simp at this
  omega
theorem specJust_ev {t : List B} {st : List Int} {l : List L} (g : GL t st l) : Ev (fun k => spec_l10Justified.f k t st l) (justified t st l) := by
  have hi24 := g.tree.hi
  have lo := g.tree.lo
  have key : ∀ (n i : Nat), t.length - i = n → i ≤ t.length → ∀ s : List Int, s.length ≤ i → Ev (fun k => spec_l10Justified.l0 k t st l s (i : Int)) (jst st l n (i : Int) s) := by
    intro n
    induction n with
    | zero =>
      intro i h1 h2 s hs
      refine Ev.one fun k => ?_
      rw [spec_l10Justified.l0, if_neg (by omega), jst]
    | succ n ih =>
      intro i h1 h2 s hs
      have c1 : (i : Int) < (t.length : Int) := by omega
      have hw : wrap64 ((i : Int) + 1) = ((i + 1 : Nat) : Int) := by rw [wrap_id (by omega) (by omega)]; omega
      have ei : (i : Int) + 1 = ((i + 1 : Nat) : Int) := by omega
      have inner : ∀ (m j : Nat), s.length - j = m → j ≤ s.length → Ev (fun k => spec_l10Justified.l1 k t st l s (i : Int) (j : Int)) (jst st l n ((i : Int) + 1) (if ((s.drop j).any fun a => great st (wsOf a (i : Int) l)) = true then s ++ [(i : Int)] else s)) := by
        intro m
        induction m with
        | zero =>
          intro j h3 h4
          obtain rfl : j = s.length := by omega
          have c2 : ¬ ((s.length : Int) < (s.length : Int)) := by omega
          refine Ev.step (fun k => rfl) ?_
          simp only [spec_l10Justified.l1, if_neg c2, hw, List.drop_length, List.any_nil, Bool.false_eq_true, if_false]
          rw [ei]
          exact ih (i + 1) (by omega) (by omega) s (by omega)
        | succ m ihm =>
          intro j h3 h4
          have hj : j < s.length := by omega
          have c2 : (j : Int) < (s.length : Int) := by omega
          have c3 : (0 : Int) ≤ (j : Int) := by omega
          have hwj : wrap64 ((j : Int) + 1) = ((j + 1 : Nat) : Int) := by rw [wrap_id (by omega) (by omega)]; omega
          have hd : s.drop j = s[j] :: s.drop (j + 1) := List.drop_eq_getElem_cons hj
          have hr : rd s (j : Int) = s[j] := rd_at (List.getElem?_eq_getElem hj)
          have c4 : s.length < 17592186044416 := by omega
          refine Ev.step (fun k => rfl) ?_
          simp only [spec_l10Justified.l1, if_pos c2, if_pos c3, hr, hwj, hw, if_pos c4]
          refine Ev.bind (specIs_ev g s[j] (i : Int)) ?_
          rw [hd, List.any_cons]
          cases e : great st (wsOf s[j] (i : Int) l) with
          | true =>
            simp only [if_true, Bool.true_or]
            rw [ei]
            exact ih (i + 1) (by omega) (by omega) _ (by simp; omega)
          | false =>
            simp only [Bool.false_eq_true, if_false, Bool.false_or]
            exact ihm (j + 1) (by omega) (by omega)
      refine Ev.step (fun k => rfl) ?_
      simp only [spec_l10Justified.l0, if_pos c1]
      exact inner s.length 0 (by omega) (by omega)
  unfold spec_l10Justified.f justified
  exact key (t.length - 1) 1 rfl lo [0] (by simp)
theorem implJust_ev {t : List B} {st : List Int} {l : List L} (g : GL t st l) : Ev (fun k => impl_justifiedIn.f k t st l) (justified t st l) := by
  have hi24 := g.tree.hi
  have lo := g.tree.lo
  have key : ∀ (n i : Nat), t.length - i = n → i ≤ t.length → ∀ s : List Int, s.length ≤ i → Ev (fun k => impl_justifiedIn.l0 k t st l s (i : Int)) (jst st l n (i : Int) s) := by
    intro n
    induction n with
    | zero =>
      intro i h1 h2 s hs
      refine Ev.one fun k => ?_
      rw [impl_justifiedIn.l0, if_neg (by omega), jst]
    | succ n ih =>
      intro i h1 h2 s hs
      have c1 : (i : Int) < (t.length : Int) := by omega
      have hw : wrap64 ((i : Int) + 1) = ((i + 1 : Nat) : Int) := by rw [wrap_id (by omega) (by omega)]; omega
      have ei : (i : Int) + 1 = ((i + 1 : Nat) : Int) := by omega
      have c4 : s.length < 17592186044416 := by omega
      refine Ev.step (fun k => rfl) ?_
      simp only [impl_justifiedIn.l0, if_pos c1, hw, if_pos c4]
      refine Ev.bind (anyO_ev (fun a _ => by unfold impl_justifiedIn_1.f; exact implIs_ev g a (i : Int)) : Ev (fun k => anyO (impl_justifiedIn_1.f k st l (i : Int)) s) (s.any fun a => great st (wsOf a (i : Int) l))) ?_
      rw [jst, ei]
      cases e : (s.any fun a => great st (wsOf a (i : Int) l)) with
      | true =>
        simp only [if_true]
        exact ih (i + 1) (by omega) (by omega) _ (by simp; omega)
      | false =>
        simp only [Bool.false_eq_true, if_false]
        exact ih (i + 1) (by omega) (by omega) s (by omega)
  unfold impl_justifiedIn.f justified
  exact key (t.length - 1) 1 rfl lo [0] (by simp)

end Go.Proofs.Ytdoakbcopnfgpaa.Pure
