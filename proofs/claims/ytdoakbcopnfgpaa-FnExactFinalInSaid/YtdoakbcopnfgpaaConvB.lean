/-
What the laws' helpers on blocks come to.
Conditions: none beyond each lemma's own premises.
-/
import Derived.Test.YtdoakbcopnfgpaaGen
import Derived.Test.YtdoakbcopnfgpaaQ0
import Derived.Test.YtdoakbcopnfgpaaQ1
import Derived.Test.YtdoakbcopnfgpaaQ12
import Derived.Test.YtdoakbcopnfgpaaQ24
import Derived.Test.YtdoakbcopnfgpaaQ25
namespace Go.Proofs.Ytdoakbcopnfgpaa.Pure
open Go.RowKit Go.Proofs.Ytdoakbcopnfgpaa.Q Go.Proofs.Ytdoakbcopnfgpaa.Gen Go.Proofs.YtdoakbcopnfgpaaW.PrintWords Go.Proofs.YtdoakbcopnfgpaaW.PrintLast
set_option linter.unusedVariables false
set_option linter.unusedSimpArgs false

theorem toBlockS_ev (l : List S51) (hl : l.length ≤ 1048576) : Ev (fun k => laws_toBlockS.f k l) (l.map fun x => (⟨x.f0, x.f1⟩ : S49)) := by
  unfold laws_toBlockS.f
  have h1 : (0 : Int) ≤ (l.length : Int) := by omega
  have h2 : l.length ≤ 17592186044416 := by omega
  simp only [if_pos h1, Int.toNat_natCast, if_pos h2]
  refine ev_build (fun k ys i => laws_toBlockS.l0 k l ys i) l (fun x => (⟨x.f0, x.f1⟩ : S49)) z49 ?_ ?_
  · intro ys hy
    refine Ev.one fun k => ?_
    simp only [laws_toBlockS.l0]
    rw [if_neg (by omega)]
  · intro i x ys r hy hi hx h
    have c1 : (i : Int) < (l.length : Int) := by omega
    have c2 : (0 : Int) ≤ (i : Int) := by omega
    have c3 : (i : Int) < (ys.length : Int) := by omega
    have hw : wrap64 ((i : Int) + 1) = (i : Int) + 1 := wrap_id (by omega) (by omega)
    have hr : rd_T51 l (i : Int) = x := getD_at l z51 hx
    refine Ev.step (fun k => rfl) ?_
    simp only [laws_toBlockS.l0, laws_toBlock.f, Option.bind_some, if_pos c1, if_pos c2, if_pos c3, hw, Int.toNat_natCast, hr]
    exact h

theorem eqBlockS_ev (l : List S49) (hl : l.length ≤ 9223372036854775806) : Ev (fun k => laws_eqBlockS.f k l l) true := by
  unfold laws_eqBlockS.f
  simp only [if_true]
  refine ev_list (σ := Unit) (fun k _ i => laws_eqBlockS.l0 k l l i) (fun _ _ => true) l ?_ ?_ ()
  · intro s
    refine Ev.one fun k => ?_
    simp only [laws_eqBlockS.l0]
    rw [if_neg (by omega)]
  · intro i x xs s hd hi hx h
    have c1 : (i : Int) < (l.length : Int) := by omega
    have c2 : (0 : Int) ≤ (i : Int) := by omega
    have hw : wrap64 ((i : Int) + 1) = (i : Int) + 1 := wrap_id (by omega) (by omega)
    refine Ev.step (fun k => rfl) ?_
    simp only [laws_eqBlockS.l0, laws_eqBlock.f, Option.bind_some, if_pos c1, if_pos c2, if_true, hw]
    exact h ()

theorem szBlockS_eq (l : List S51) (a : Int) (ha : 0 ≤ a) (ha2 : a ≤ 1048576) (hl : l.length ≤ 9223372036854775807) : laws_szBlockS.f l a = some (if (l.length : Int) ≤ a then a - (l.length : Int) else -1) := by
  unfold laws_szBlockS.f
  rw [wrap_id (by omega) (by omega)]
  by_cases h : (l.length : Int) ≤ a
  · rw [if_neg (by omega), if_pos h]
  · rw [if_pos (by omega), if_neg h]

def marksBlock (n : Nat) (q : Int) : List S49 := (List.range n).map fun (i : Nat) => (⟨q + 2 * (i : Int), q + 2 * (i : Int) + 1⟩ : S49)
theorem marksBlock_length (n : Nat) (q : Int) : (marksBlock n q).length = n := by simp [marksBlock]
theorem marksBlock_at (n : Nat) (q : Int) (i : Nat) (h : i < n) : (marksBlock n q)[i]? = some (⟨q + 2 * (i : Int), q + 2 * (i : Int) + 1⟩ : S49) := by simp [marksBlock, h]
theorem markBlockS_ev (l : List S49) (q : Int) (hl : l.length ≤ 4194304) (h0 : 0 ≤ q) (h1 : q ≤ 1099511627776) : Ev (fun k => laws_markBlockS.f k l q) (q + 2 * (l.length : Int), marksBlock l.length q) := by
  have key : ∀ (n i : Nat) (ys : List S49), l.length - i = n → i ≤ l.length → ys.length = l.length → (∀ j, j < i → ys[j]? = (marksBlock l.length q)[j]?) →
      Ev (fun k => laws_markBlockS.l0 k ys (q + 2 * (i : Int)) (i : Int)) (q + 2 * (l.length : Int), marksBlock l.length q) := by
    intro n
    induction n with
    | zero =>
      intro i ys e hi hy hm
      obtain rfl : i = l.length := by omega
      have hys : ys = marksBlock l.length q := by
        apply List.ext_getElem?
        intro j
        by_cases hj : j < l.length
        · exact hm j hj
        · rw [List.getElem?_eq_none (by omega), List.getElem?_eq_none (by rw [marksBlock_length]; omega)]
      refine Ev.one fun k => ?_
      simp only [laws_markBlockS.l0]
      rw [if_neg (by omega), hys]
    | succ n ih =>
      intro i ys e hi hy hm
      have c1 : (i : Int) < (ys.length : Int) := by omega
      have c2 : (0 : Int) ≤ (i : Int) := by omega
      have hw : wrap64 ((i : Int) + 1) = ((i + 1 : Nat) : Int) := by rw [wrap_id (by omega) (by omega)]; omega
      have hw0 : wrap64 (q + 2 * (i : Int) + 1) = q + 2 * (i : Int) + 1 := by rw [wrap_id (by omega) (by omega)]
      have hw1 : wrap64 (q + 2 * (i : Int) + 1 + 1) = q + 2 * (i : Int) + 2 := by rw [wrap_id (by omega) (by omega)]; omega
      have hset : ∀ v : S49, rd_T49 (ys.set i v) (i : Int) = v := fun v => getD_at _ z49 (List.getElem?_set_self (by omega))
      refine Ev.step (fun k => rfl) ?_
      simp only [laws_markBlockS.l0, if_pos c1, if_pos c2, hw, Int.toNat_natCast, Option.bind_some, List.set_set, hset, hw0, hw1]
      have h2 : q + 2 * (i : Int) + 2 = q + 2 * ((i + 1 : Nat) : Int) := by omega
      rw [h2]
      refine ih (i + 1) _ (by omega) (by omega) (by simp [hy]) (fun j hj => ?_)
      rw [marksBlock_at _ _ _ (by omega)]
      by_cases e2 : i = j
      · subst e2
        rw [List.getElem?_set_self (by omega)]
      · rw [List.getElem?_set_ne e2, hm j (by omega), marksBlock_at _ _ _ (by omega)]
  have := key l.length 0 l (by omega) (by omega) rfl (by intro j hj; omega)
  unfold laws_markBlockS.f
  have e0 : q + 2 * ((0 : Nat) : Int) = q := by omega
  rw [e0] at this
  exact this

end Go.Proofs.Ytdoakbcopnfgpaa.Pure
