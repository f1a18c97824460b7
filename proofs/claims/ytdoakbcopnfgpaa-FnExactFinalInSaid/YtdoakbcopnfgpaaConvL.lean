/-
What the laws' helpers on links come to.
Conditions: none beyond each lemma's own premises.
-/
import Derived.Test.YtdoakbcopnfgpaaGen
import Derived.Test.YtdoakbcopnfgpaaQ0
import Derived.Test.YtdoakbcopnfgpaaQ1
import Derived.Test.YtdoakbcopnfgpaaQ13
import Derived.Test.YtdoakbcopnfgpaaQ23
import Derived.Test.YtdoakbcopnfgpaaQ25
import Derived.Test.YtdoakbcopnfgpaaQ26
namespace Go.Proofs.Ytdoakbcopnfgpaa.Pure
open Go.RowKit Go.Proofs.Ytdoakbcopnfgpaa.Q Go.Proofs.Ytdoakbcopnfgpaa.Gen Go.Proofs.YtdoakbcopnfgpaaW.PrintWords Go.Proofs.YtdoakbcopnfgpaaW.PrintLast
set_option linter.unusedVariables false
set_option linter.unusedSimpArgs false

theorem toLinkS_ev (l : List S55) (hl : l.length ≤ 1048576) : Ev (fun k => laws_toLinkS.f k l) (l.map fun x => (⟨x.f0, x.f1, x.f2⟩ : S53)) := by
  unfold laws_toLinkS.f
  have h1 : (0 : Int) ≤ (l.length : Int) := by omega
  have h2 : l.length ≤ 11728124029610 := by omega
  simp only [if_pos h1, Int.toNat_natCast, if_pos h2]
  refine ev_build (fun k ys i => laws_toLinkS.l0 k l ys i) l (fun x => (⟨x.f0, x.f1, x.f2⟩ : S53)) z53 ?_ ?_
  · intro ys hy
    refine Ev.one fun k => ?_
    simp only [laws_toLinkS.l0]
    rw [if_neg (by omega)]
  · intro i x ys r hy hi hx h
    have c1 : (i : Int) < (l.length : Int) := by omega
    have c2 : (0 : Int) ≤ (i : Int) := by omega
    have c3 : (i : Int) < (ys.length : Int) := by omega
    have hw : wrap64 ((i : Int) + 1) = (i : Int) + 1 := wrap_id (by omega) (by omega)
    have hr : rd_T55 l (i : Int) = x := getD_at l z55 hx
    refine Ev.step (fun k => rfl) ?_
    simp only [laws_toLinkS.l0, laws_toLink.f, Option.bind_some, if_pos c1, if_pos c2, if_pos c3, hw, Int.toNat_natCast, hr]
    exact h

theorem eqLinkS_ev (l : List S53) (hl : l.length ≤ 9223372036854775806) : Ev (fun k => laws_eqLinkS.f k l l) true := by
  unfold laws_eqLinkS.f
  simp only [if_true]
  refine ev_list (σ := Unit) (fun k _ i => laws_eqLinkS.l0 k l l i) (fun _ _ => true) l ?_ ?_ ()
  · intro s
    refine Ev.one fun k => ?_
    simp only [laws_eqLinkS.l0]
    rw [if_neg (by omega)]
  · intro i x xs s hd hi hx h
    have c1 : (i : Int) < (l.length : Int) := by omega
    have c2 : (0 : Int) ≤ (i : Int) := by omega
    have hw : wrap64 ((i : Int) + 1) = (i : Int) + 1 := wrap_id (by omega) (by omega)
    refine Ev.step (fun k => rfl) ?_
    simp only [laws_eqLinkS.l0, laws_eqLink.f, Option.bind_some, if_pos c1, if_pos c2, if_true, hw]
    exact h ()

theorem szLinkS_eq (l : List S55) (a : Int) (ha : 0 ≤ a) (ha2 : a ≤ 1048576) (hl : l.length ≤ 9223372036854775807) : laws_szLinkS.f l a = some (if (l.length : Int) ≤ a then a - (l.length : Int) else -1) := by
  unfold laws_szLinkS.f
  rw [wrap_id (by omega) (by omega)]
  by_cases h : (l.length : Int) ≤ a
  · rw [if_neg (by omega), if_pos h]
  · rw [if_pos (by omega), if_neg h]

def marksLink (n : Nat) (q : Int) : List S53 := (List.range n).map fun (i : Nat) => (⟨q + 3 * (i : Int), q + 3 * (i : Int) + 1, q + 3 * (i : Int) + 2⟩ : S53)
theorem marksLink_length (n : Nat) (q : Int) : (marksLink n q).length = n := by simp [marksLink]
theorem marksLink_at (n : Nat) (q : Int) (i : Nat) (h : i < n) : (marksLink n q)[i]? = some (⟨q + 3 * (i : Int), q + 3 * (i : Int) + 1, q + 3 * (i : Int) + 2⟩ : S53) := by simp [marksLink, h]
theorem markLinkS_ev (l : List S53) (q : Int) (hl : l.length ≤ 4194304) (h0 : 0 ≤ q) (h1 : q ≤ 1099511627776) : Ev (fun k => laws_markLinkS.f k l q) (q + 3 * (l.length : Int), marksLink l.length q) := by
  have key : ∀ (n i : Nat) (ys : List S53), l.length - i = n → i ≤ l.length → ys.length = l.length → (∀ j, j < i → ys[j]? = (marksLink l.length q)[j]?) →
      Ev (fun k => laws_markLinkS.l0 k ys (q + 3 * (i : Int)) (i : Int)) (q + 3 * (l.length : Int), marksLink l.length q) := by
    intro n
    induction n with
    | zero =>
      intro i ys e hi hy hm
      obtain rfl : i = l.length := by omega
      have hys : ys = marksLink l.length q := by
        apply List.ext_getElem?
        intro j
        by_cases hj : j < l.length
        · exact hm j hj
        · rw [List.getElem?_eq_none (by omega), List.getElem?_eq_none (by rw [marksLink_length]; omega)]
      refine Ev.one fun k => ?_
      simp only [laws_markLinkS.l0]
      rw [if_neg (by omega), hys]
    | succ n ih =>
      intro i ys e hi hy hm
      have c1 : (i : Int) < (ys.length : Int) := by omega
      have c2 : (0 : Int) ≤ (i : Int) := by omega
      have hw : wrap64 ((i : Int) + 1) = ((i + 1 : Nat) : Int) := by rw [wrap_id (by omega) (by omega)]; omega
      have hw0 : wrap64 (q + 3 * (i : Int) + 1) = q + 3 * (i : Int) + 1 := by rw [wrap_id (by omega) (by omega)]
      have hw1 : wrap64 (q + 3 * (i : Int) + 1 + 1) = q + 3 * (i : Int) + 2 := by rw [wrap_id (by omega) (by omega)]; omega
      have hw2 : wrap64 (q + 3 * (i : Int) + 2 + 1) = q + 3 * (i : Int) + 3 := by rw [wrap_id (by omega) (by omega)]; omega
      have hset : ∀ v : S53, rd_T53 (ys.set i v) (i : Int) = v := fun v => getD_at _ z53 (List.getElem?_set_self (by omega))
      refine Ev.step (fun k => rfl) ?_
      simp only [laws_markLinkS.l0, if_pos c1, if_pos c2, hw, Int.toNat_natCast, Option.bind_some, List.set_set, hset, hw0, hw1, hw2]
      have h2 : q + 3 * (i : Int) + 3 = q + 3 * ((i + 1 : Nat) : Int) := by omega
      rw [h2]
      refine ih (i + 1) _ (by omega) (by omega) (by simp [hy]) (fun j hj => ?_)
      rw [marksLink_at _ _ _ (by omega)]
      by_cases e2 : i = j
      · subst e2
        rw [List.getElem?_set_self (by omega)]
      · rw [List.getElem?_set_ne e2, hm j (by omega), marksLink_at _ _ _ (by omega)]
  have := key l.length 0 l (by omega) (by omega) rfl (by intro j hj; omega)
  unfold laws_markLinkS.f
  have e0 : q + 3 * ((0 : Nat) : Int) = q := by omega
  rw [e0] at this
  exact this

end Go.Proofs.Ytdoakbcopnfgpaa.Pure
