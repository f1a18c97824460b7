/-
How deep a block lies: the program's way and the reference's are one.
Conditions: none beyond each lemma's own premises.
-/
import Derived.Test.YtdoakbcopnfgpaaTreeB
import Derived.Test.YtdoakbcopnfgpaaQ0
import Derived.Test.YtdoakbcopnfgpaaQ8
import Derived.Test.YtdoakbcopnfgpaaQ18
import Derived.Test.YtdoakbcopnfgpaaQ19
namespace Go.Proofs.Ytdoakbcopnfgpaa.Pure
open Go.RowKit Go.Proofs.Ytdoakbcopnfgpaa.Q Go.Proofs.Ytdoakbcopnfgpaa.Gen Go.Proofs.YtdoakbcopnfgpaaW.PrintWords Go.Proofs.YtdoakbcopnfgpaaW.PrintLast
set_option linter.unusedVariables false
set_option linter.unusedSimpArgs false

theorem reverse_loop (l : List Int) (hl : l.length ≤ 1048576) : ∀ (n i : Nat) (xs : List Int), l.length - 2 * i = n → 2 * i ≤ l.length + 1 → xs.length = l.length →
    (∀ p, p < l.length → xs[p]? = if i ≤ p ∧ p + i < l.length then l[p]? else l[l.length - 1 - p]?) →
    Ev (fun k => slices_Reverse_int_int.l0 k xs (i : Int) ((l.length : Int) - 1 - (i : Int))) l.reverse := by
  intro n
  induction n using Nat.strongRecOn with
  | _ n ih =>
    intro i xs h1 h2 h3 h4
    by_cases c : (i : Int) < (l.length : Int) - 1 - (i : Int)
    · have a1 : (0 : Int) ≤ (l.length : Int) - 1 - (i : Int) := by omega
      have a2 : (l.length : Int) - 1 - (i : Int) < (xs.length : Int) := by omega
      have a3 : (0 : Int) ≤ (i : Int) := by omega
      have a4 : (i : Int) < (xs.length : Int) := by omega
      have ej : ((l.length : Int) - 1 - (i : Int)).toNat = l.length - 1 - i := by omega
      have ej2 : (l.length : Int) - 1 - (i : Int) = ((l.length - 1 - i : Nat) : Int) := by omega
      have w1 : wrap64 ((i : Int) + 1) = ((i + 1 : Nat) : Int) := by rw [wrap_id (by omega) (by omega)]; omega
      have w2 : wrap64 ((l.length : Int) - 1 - (i : Int) - 1) = (l.length : Int) - 1 - ((i + 1 : Nat) : Int) := by rw [wrap_id (by omega) (by omega)]; omega
      have ri : rd xs (i : Int) = l[i]'(by omega) := rd_at (by rw [h4 i (by omega), if_pos ⟨by omega, by omega⟩]; exact List.getElem?_eq_getElem _)
      have rj : rd xs ((l.length : Int) - 1 - (i : Int)) = l[l.length - 1 - i]'(by omega) := by
        rw [ej2]
        exact rd_at (by rw [h4 _ (by omega), if_pos ⟨by omega, by omega⟩]; exact List.getElem?_eq_getElem _)
      refine Ev.step (fun k => rfl) ?_
      simp only [slices_Reverse_int_int.l0, if_pos c, if_pos a1, if_pos a2, if_pos a3, if_pos a4, w1, w2, ri, rj, ej, Int.toNat_natCast]
      refine ih (l.length - 2 * (i + 1)) (by omega) (i + 1) _ rfl (by omega) (by simp [h3]) (fun p hp => ?_)
      rw [List.getElem?_set, List.getElem?_set]
      by_cases e1 : l.length - 1 - i = p
      · subst e1
        rw [if_pos rfl, if_pos (by simp; omega), if_neg (by omega), show l.length - 1 - (l.length - 1 - i) = i by omega]
        exact (List.getElem?_eq_getElem _).symm
      · rw [if_neg e1]
        by_cases e2 : i = p
        · subst e2
          rw [if_pos rfl, if_pos (by omega), if_neg (by omega)]
          exact (List.getElem?_eq_getElem _).symm
        · rw [if_neg e2, h4 p hp]
          by_cases e3 : i ≤ p ∧ p + i < l.length
          · rw [if_pos e3, if_pos (by omega)]
          · rw [if_neg e3, if_neg (by omega)]
    · refine Ev.one fun k => ?_
      simp only [slices_Reverse_int_int.l0]
      rw [if_neg c]
      congr 1
      apply List.ext_getElem?
      intro p
      by_cases hp : p < l.length
      · rw [h4 p hp, List.getElem?_reverse (by omega)]
        by_cases e3 : i ≤ p ∧ p + i < l.length
        · rw [if_pos e3, show l.length - 1 - p = p by omega]
        · rw [if_neg e3]
      · rw [List.getElem?_eq_none (by omega), List.getElem?_eq_none (by simp; omega)]
theorem reverse_ev (l : List Int) (hl : l.length ≤ 1048576) : Ev (fun k => slices_Reverse_int_int.f k l) l.reverse := by
  unfold slices_Reverse_int_int.f
  rw [wrap_id (by omega) (by omega)]
  have := reverse_loop l hl (l.length - 2 * 0) 0 l rfl (by omega) rfl (fun p hp => by rw [if_pos ⟨by omega, by omega⟩])
  rwa [show (l.length : Int) - 1 - ((0 : Nat) : Int) = (l.length : Int) - 1 by omega] at this
theorem implWay_ev {t : List B} (hg : GT t) (b : Int) (hb : b < t.length) : Ev (fun k => impl_wayTo.f k t b) (way t b) := by
  have h24 := hg.hi
  have key : ∀ (n : Nat) (b : Int), b < (t.length : Int) → b < (n : Int) → ∀ s : List Int, s.length + (b + 1).toNat ≤ 1000 → Ev (fun k => impl_wayTo.l0 k t b s) (way t b ++ s.reverse) := by
    refine way_ind hg (P := fun b => ∀ s : List Int, s.length + (b + 1).toNat ≤ 1000 → Ev (fun k => impl_wayTo.l0 k t b s) (way t b ++ s.reverse)) ?_ ?_
    · intro b hb s hs
      have c : ¬ (b ≥ 0) := by omega
      refine Ev.step (fun k => rfl) ?_
      simp only [impl_wayTo.l0, if_neg c]
      refine Ev.bind (reverse_ev s (by omega)) ?_
      refine (Ev.now _).cast ?_
      rw [way_neg t b hb, List.nil_append]
    · intro b h0 h1 ih s hs
      have c : b ≥ 0 := h0
      have c2 : s.length < 17592186044416 := by omega
      have p := par_lt hg h0 h1
      refine Ev.step (fun k => rfl) ?_
      simp only [impl_wayTo.l0, if_pos c, if_pos c2, if_pos h0, if_pos h1]
      refine (ih (s ++ [b]) (by simp; omega)).cast ?_
      rw [way_step hg h0 h1, List.reverse_append, List.append_assoc]
      rfl
  unfold impl_wayTo.f
  refine (key (b.toNat + 1) b hb (by omega) [] (by simp; omega)).cast (by simp)
/-- How deep a block lies. -/
def dep (t : List B) (b : Int) : Int := wrap64 (((way t b).length : Int) - 1)
theorem specDepth_ev {t : List B} (hg : GT t) (b : Int) (hb : b < t.length) : Ev (fun k => spec_l10Depth.f k t b) (dep t b) := by
  unfold spec_l10Depth.f
  exact Ev.bind (specWay_ev hg b hb) (Ev.now _)
theorem implDepth_ev {t : List B} (hg : GT t) (b : Int) (hb : b < t.length) : Ev (fun k => impl_depthOf.f k t b) (dep t b) := by
  unfold impl_depthOf.f
  exact Ev.bind (implWay_ev hg b hb) (Ev.now _)

end Go.Proofs.Ytdoakbcopnfgpaa.Pure
