/-
What the laws' helpers on whole numbers come to.
Conditions: none beyond each lemma's own premises.
-/
import Derived.Test.YtdoakbcopnfgpaaGen
import Derived.Test.YtdoakbcopnfgpaaQ0
import Derived.Test.YtdoakbcopnfgpaaQ12
import Derived.Test.YtdoakbcopnfgpaaQ24
import Derived.Test.YtdoakbcopnfgpaaQ25
import Derived.Test.YtdoakbcopnfgpaaQ36
namespace Go.Proofs.Ytdoakbcopnfgpaa.Pure
open Go.RowKit Go.Proofs.Ytdoakbcopnfgpaa.Q Go.Proofs.Ytdoakbcopnfgpaa.Gen Go.Proofs.YtdoakbcopnfgpaaW.PrintWords Go.Proofs.YtdoakbcopnfgpaaW.PrintLast
set_option linter.unusedVariables false
set_option linter.unusedSimpArgs false

theorem toIntS_ev (l : List Int) (hl : l.length ≤ 1048576) : Ev (fun k => laws_toIntS.f k l) l := by
  unfold laws_toIntS.f
  have h1 : (0 : Int) ≤ (l.length : Int) := by omega
  have h2 : l.length ≤ 35184372088832 := by omega
  simp only [if_pos h1, Int.toNat_natCast, if_pos h2]
  refine Ev.cast (ev_build (fun k ys i => laws_toIntS.l0 k l ys i) l (fun x => x) 0 ?_ ?_) (by simp)
  · intro ys hy
    refine Ev.one fun k => ?_
    simp only [laws_toIntS.l0]
    rw [if_neg (by omega)]
  · intro i x ys r hy hi hx h
    have c1 : (i : Int) < (l.length : Int) := by omega
    have c2 : (0 : Int) ≤ (i : Int) := by omega
    have c3 : (i : Int) < (ys.length : Int) := by omega
    have hw : wrap64 ((i : Int) + 1) = (i : Int) + 1 := wrap_id (by omega) (by omega)
    refine Ev.step (fun k => rfl) ?_
    simp only [laws_toIntS.l0, if_pos c1, if_pos c2, if_pos c3, hw, Int.toNat_natCast, rd_at hx]
    exact h

theorem eqIntS_ev (l : List Int) (hl : l.length ≤ 9223372036854775806) : Ev (fun k => laws_eqIntS.f k l l) true := by
  unfold laws_eqIntS.f
  simp only [if_true]
  refine ev_list (σ := Unit) (fun k _ i => laws_eqIntS.l0 k l l i) (fun _ _ => true) l ?_ ?_ ()
  · intro s
    refine Ev.one fun k => ?_
    simp only [laws_eqIntS.l0]
    rw [if_neg (by omega)]
  · intro i x xs s hd hi hx h
    have c1 : (i : Int) < (l.length : Int) := by omega
    have c2 : (0 : Int) ≤ (i : Int) := by omega
    have hw : wrap64 ((i : Int) + 1) = (i : Int) + 1 := wrap_id (by omega) (by omega)
    refine Ev.step (fun k => rfl) ?_
    simp only [laws_eqIntS.l0, if_pos c1, if_pos c2, if_true, hw]
    exact h ()

def marksInt (n : Nat) (q : Int) : List Int := (List.range n).map fun (i : Nat) => (q + 1 * (i : Int))
theorem marksInt_length (n : Nat) (q : Int) : (marksInt n q).length = n := by simp [marksInt]
theorem marksInt_at (n : Nat) (q : Int) (i : Nat) (h : i < n) : (marksInt n q)[i]? = some (q + 1 * (i : Int)) := by simp [marksInt, h]
theorem markIntS_ev (l : List Int) (q : Int) (hl : l.length ≤ 4194304) (h0 : 0 ≤ q) (h1 : q ≤ 1099511627776) : Ev (fun k => laws_markIntS.f k l q) (q + 1 * (l.length : Int), marksInt l.length q) := by
  have key : ∀ (n i : Nat) (ys : List Int), l.length - i = n → i ≤ l.length → ys.length = l.length → (∀ j, j < i → ys[j]? = (marksInt l.length q)[j]?) →
      Ev (fun k => laws_markIntS.l0 k ys (q + 1 * (i : Int)) (i : Int)) (q + 1 * (l.length : Int), marksInt l.length q) := by
    intro n
    induction n with
    | zero =>
      intro i ys e hi hy hm
      obtain rfl : i = l.length := by omega
      have hys : ys = marksInt l.length q := by
        apply List.ext_getElem?
        intro j
        by_cases hj : j < l.length
        · exact hm j hj
        · rw [List.getElem?_eq_none (by omega), List.getElem?_eq_none (by rw [marksInt_length]; omega)]
      refine Ev.one fun k => ?_
      simp only [laws_markIntS.l0]
      rw [if_neg (by omega), hys]
    | succ n ih =>
      intro i ys e hi hy hm
      have c1 : (i : Int) < (ys.length : Int) := by omega
      have c2 : (0 : Int) ≤ (i : Int) := by omega
      have hw : wrap64 ((i : Int) + 1) = ((i + 1 : Nat) : Int) := by rw [wrap_id (by omega) (by omega)]; omega
      have hw0 : wrap64 (q + 1 * (i : Int) + 1) = q + 1 * (i : Int) + 1 := by rw [wrap_id (by omega) (by omega)]
      have hset : ∀ v : Int, rd (ys.set i v) (i : Int) = v := fun v => getD_at _ 0 (List.getElem?_set_self (by omega))
      refine Ev.step (fun k => rfl) ?_
      simp only [laws_markIntS.l0, if_pos c1, if_pos c2, hw, Int.toNat_natCast, Option.bind_some, List.set_set, hset, hw0]
      have h2 : q + 1 * (i : Int) + 1 = q + 1 * ((i + 1 : Nat) : Int) := by omega
      rw [h2]
      refine ih (i + 1) _ (by omega) (by omega) (by simp [hy]) (fun j hj => ?_)
      rw [marksInt_at _ _ _ (by omega)]
      by_cases e2 : i = j
      · subst e2
        rw [List.getElem?_set_self (by omega)]
      · rw [List.getElem?_set_ne e2, hm j (by omega), marksInt_at _ _ _ (by omega)]
  have := key l.length 0 l (by omega) (by omega) rfl (by intro j hj; omega)
  unfold laws_markIntS.f
  have e0 : q + 1 * ((0 : Nat) : Int) = q := by omega
  rw [e0] at this
  exact this

theorem heldIntS_ev (n : Nat) (q : Int) (hn : n ≤ 4194304) (h0 : 0 ≤ q) (h1 : q ≤ 1099511627776) : Ev (fun k => laws_heldIntS.f k (marksInt n q) q) (q + 1 * (n : Int)) := by
  have key : ∀ (m i : Nat), n - i = m → i ≤ n → Ev (fun k => laws_heldIntS.l0 k (marksInt n q) (q + 1 * (i : Int)) (i : Int)) (q + 1 * (n : Int)) := by
    intro m
    induction m with
    | zero =>
      intro i e hi
      obtain rfl : i = n := by omega
      refine Ev.one fun k => ?_
      simp only [laws_heldIntS.l0]
      rw [marksInt_length, if_neg (by omega)]
    | succ m ih =>
      intro i e hi
      have c1 : (i : Int) < ((marksInt n q).length : Int) := by rw [marksInt_length]; omega
      have c2 : (0 : Int) ≤ (i : Int) := by omega
      have hw : wrap64 ((i : Int) + 1) = ((i + 1 : Nat) : Int) := by rw [wrap_id (by omega) (by omega)]; omega
      have hw0 : wrap64 (q + 1 * (i : Int) + 1) = q + 1 * (i : Int) + 1 := by rw [wrap_id (by omega) (by omega)]
      have hr : rd (marksInt n q) (i : Int) = (q + 1 * (i : Int)) := getD_at _ 0 (marksInt_at n q i (by omega))
      refine Ev.step (fun k => rfl) ?_
      simp only [laws_heldIntS.l0, if_pos c1, if_pos c2, hw, hr, hw0, if_true]
      have h2 : q + 1 * (i : Int) + 1 = q + 1 * ((i + 1 : Nat) : Int) := by omega
      rw [h2]
      exact ih (i + 1) (by omega) (by omega)
  have := key n 0 (by omega) (by omega)
  unfold laws_heldIntS.f
  have e0 : q + 1 * ((0 : Nat) : Int) = q := by omega
  rw [e0] at this
  exact this

end Go.Proofs.Ytdoakbcopnfgpaa.Pure
