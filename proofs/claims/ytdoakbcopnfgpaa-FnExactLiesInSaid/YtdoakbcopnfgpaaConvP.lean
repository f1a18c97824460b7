/-
What the laws' helpers on proofs come to.
Conditions: none beyond each lemma's own premises.
-/
import Derived.Test.YtdoakbcopnfgpaaGen
import Derived.Test.YtdoakbcopnfgpaaQ0
import Derived.Test.YtdoakbcopnfgpaaQ23
import Derived.Test.YtdoakbcopnfgpaaQ26
namespace Go.Proofs.Ytdoakbcopnfgpaa.Pure
open Go.RowKit Go.Proofs.Ytdoakbcopnfgpaa.Q Go.Proofs.Ytdoakbcopnfgpaa.Gen Go.Proofs.YtdoakbcopnfgpaaW.PrintWords Go.Proofs.YtdoakbcopnfgpaaW.PrintLast
set_option linter.unusedVariables false
set_option linter.unusedSimpArgs false

theorem eqProofS_ev (l : List S58) (hl : l.length ≤ 9223372036854775806) : Ev (fun k => laws_eqProofS.f k l l) true := by
  unfold laws_eqProofS.f
  simp only [if_true]
  refine ev_list (σ := Unit) (fun k _ i => laws_eqProofS.l0 k l l i) (fun _ _ => true) l ?_ ?_ ()
  · intro s
    refine Ev.one fun k => ?_
    simp only [laws_eqProofS.l0]
    rw [if_neg (by omega)]
  · intro i x xs s hd hi hx h
    have c1 : (i : Int) < (l.length : Int) := by omega
    have c2 : (0 : Int) ≤ (i : Int) := by omega
    have hw : wrap64 ((i : Int) + 1) = (i : Int) + 1 := wrap_id (by omega) (by omega)
    refine Ev.step (fun k => rfl) ?_
    simp only [laws_eqProofS.l0, laws_eqProof.f, laws_eqLink.f, Option.bind_some, if_pos c1, if_pos c2, if_true, hw]
    exact h ()
def marksProof (n : Nat) (q : Int) : List S58 := (List.range n).map fun (i : Nat) => (⟨(⟨q + 6 * (i : Int), q + 6 * (i : Int) + 1, q + 6 * (i : Int) + 2⟩ : S53), (⟨q + 6 * (i : Int) + 3, q + 6 * (i : Int) + 4, q + 6 * (i : Int) + 5⟩ : S53)⟩ : S58)
theorem marksProof_length (n : Nat) (q : Int) : (marksProof n q).length = n := by simp [marksProof]
theorem marksProof_at (n : Nat) (q : Int) (i : Nat) (h : i < n) : (marksProof n q)[i]? = some (⟨(⟨q + 6 * (i : Int), q + 6 * (i : Int) + 1, q + 6 * (i : Int) + 2⟩ : S53), (⟨q + 6 * (i : Int) + 3, q + 6 * (i : Int) + 4, q + 6 * (i : Int) + 5⟩ : S53)⟩ : S58) := by simp [marksProof, h]
theorem markProofS_ev (l : List S58) (q : Int) (hl : l.length ≤ 4194304) (h0 : 0 ≤ q) (h1 : q ≤ 1099511627776) : Ev (fun k => laws_markProofS.f k l q) (q + 6 * (l.length : Int), marksProof l.length q) := by
  have key : ∀ (n i : Nat) (ys : List S58), l.length - i = n → i ≤ l.length → ys.length = l.length → (∀ j, j < i → ys[j]? = (marksProof l.length q)[j]?) →
      Ev (fun k => laws_markProofS.l0 k ys (q + 6 * (i : Int)) (i : Int)) (q + 6 * (l.length : Int), marksProof l.length q) := by
    intro n
    induction n with
    | zero =>
      intro i ys e hi hy hm
      obtain rfl : i = l.length := by omega
      have hys : ys = marksProof l.length q := by
        apply List.ext_getElem?
        intro j
        by_cases hj : j < l.length
        · exact hm j hj
        · rw [List.getElem?_eq_none (by omega), List.getElem?_eq_none (by rw [marksProof_length]; omega)]
      refine Ev.one fun k => ?_
      simp only [laws_markProofS.l0]
      rw [if_neg (by omega), hys]
    | succ n ih =>
      intro i ys e hi hy hm
      have c1 : (i : Int) < (ys.length : Int) := by omega
      have c2 : (0 : Int) ≤ (i : Int) := by omega
      have h2 : q + 6 * (i : Int) + 6 = q + 6 * ((i + 1 : Nat) : Int) := by omega
      have ea : l.length - (i + 1) = n := by omega
      have eb : i + 1 ≤ l.length := by omega
      have ec : i < l.length := by omega
      have ed : i < ys.length := by omega
      have b : 0 ≤ q + 6 * (i : Int) ∧ q + 6 * (i : Int) + 6 ≤ 9223372036854775807 ∧ (i : Int) + 1 ≤ 9223372036854775807 := by omega
      have hw : wrap64 ((i : Int) + 1) = ((i + 1 : Nat) : Int) := by rw [wrap_id (by omega) (by omega)]; omega
      have hw0 : wrap64 (q + 6 * (i : Int) + 1) = q + 6 * (i : Int) + 1 := by clear hw; rw [wrap_id (by omega) (by omega)]
      have hw1 : wrap64 (q + 6 * (i : Int) + 1 + 1) = q + 6 * (i : Int) + 2 := by clear hw hw0; rw [wrap_id (by omega) (by omega)]; omega
      have hw2 : wrap64 (q + 6 * (i : Int) + 2 + 1) = q + 6 * (i : Int) + 3 := by clear hw hw0 hw1; rw [wrap_id (by omega) (by omega)]; omega
      have hw3 : wrap64 (q + 6 * (i : Int) + 3 + 1) = q + 6 * (i : Int) + 4 := by clear hw hw0 hw1 hw2; rw [wrap_id (by omega) (by omega)]; omega
      have hw4 : wrap64 (q + 6 * (i : Int) + 4 + 1) = q + 6 * (i : Int) + 5 := by clear hw hw0 hw1 hw2 hw3; rw [wrap_id (by omega) (by omega)]; omega
      have hw5 : wrap64 (q + 6 * (i : Int) + 5 + 1) = q + 6 * (i : Int) + 6 := by clear hw hw0 hw1 hw2 hw3 hw4; rw [wrap_id (by omega) (by omega)]; omega
      have hset : ∀ v : S58, rd_T58 (ys.set i v) (i : Int) = v := fun v => getD_at _ z58 (List.getElem?_set_self ed)
      refine Ev.step (fun k => rfl) ?_
      simp only [laws_markProofS.l0, if_pos c1, if_pos c2, hw, Int.toNat_natCast, Option.bind_some, List.set_set, hset, hw0, hw1, hw2, hw3, hw4, hw5]
      rw [h2]
      refine ih (i + 1) _ ea eb (by simp [hy]) (fun j hj => ?_)
      rw [marksProof_at _ _ _ (Nat.lt_of_lt_of_le hj eb)]
      by_cases e2 : i = j
      · subst e2
        rw [List.getElem?_set_self ed]
      · rw [List.getElem?_set_ne e2, hm j (Nat.lt_of_le_of_ne (Nat.le_of_lt_succ hj) (fun e3 => e2 e3.symm)), marksProof_at _ _ _ (Nat.lt_of_lt_of_le hj eb)]
  have := key l.length 0 l (by omega) (by omega) rfl (by intro j hj; omega)
  unfold laws_markProofS.f
  have e0 : q + 6 * ((0 : Nat) : Int) = q := by omega
  rw [e0] at this
  exact this
theorem heldProofS_ev (n : Nat) (q : Int) (hn : n ≤ 4194304) (h0 : 0 ≤ q) (h1 : q ≤ 1099511627776) : Ev (fun k => laws_heldProofS.f k (marksProof n q) q) (q + 6 * (n : Int)) := by
  have key : ∀ (m i : Nat), n - i = m → i ≤ n → Ev (fun k => laws_heldProofS.l0 k (marksProof n q) (q + 6 * (i : Int)) (i : Int)) (q + 6 * (n : Int)) := by
    intro m
    induction m with
    | zero =>
      intro i e hi
      obtain rfl : i = n := by omega
      refine Ev.one fun k => ?_
      simp only [laws_heldProofS.l0]
      rw [marksProof_length, if_neg (by omega)]
    | succ m ih =>
      intro i e hi
      have c1 : (i : Int) < ((marksProof n q).length : Int) := by rw [marksProof_length]; omega
      have c2 : (0 : Int) ≤ (i : Int) := by omega
      have h2 : q + 6 * (i : Int) + 6 = q + 6 * ((i + 1 : Nat) : Int) := by omega
      have ea : n - (i + 1) = m := by omega
      have eb : i + 1 ≤ n := by omega
      have ec : i < n := by omega
      have b : 0 ≤ q + 6 * (i : Int) ∧ q + 6 * (i : Int) + 6 ≤ 9223372036854775807 ∧ (i : Int) + 1 ≤ 9223372036854775807 := by omega
      have hw : wrap64 ((i : Int) + 1) = ((i + 1 : Nat) : Int) := by rw [wrap_id (by omega) (by omega)]; omega
      have hw0 : wrap64 (q + 6 * (i : Int) + 1) = q + 6 * (i : Int) + 1 := by clear hw; rw [wrap_id (by omega) (by omega)]
      have hw1 : wrap64 (q + 6 * (i : Int) + 1 + 1) = q + 6 * (i : Int) + 2 := by clear hw hw0; rw [wrap_id (by omega) (by omega)]; omega
      have hw2 : wrap64 (q + 6 * (i : Int) + 2 + 1) = q + 6 * (i : Int) + 3 := by clear hw hw0 hw1; rw [wrap_id (by omega) (by omega)]; omega
      have hw3 : wrap64 (q + 6 * (i : Int) + 3 + 1) = q + 6 * (i : Int) + 4 := by clear hw hw0 hw1 hw2; rw [wrap_id (by omega) (by omega)]; omega
      have hw4 : wrap64 (q + 6 * (i : Int) + 4 + 1) = q + 6 * (i : Int) + 5 := by clear hw hw0 hw1 hw2 hw3; rw [wrap_id (by omega) (by omega)]; omega
      have hw5 : wrap64 (q + 6 * (i : Int) + 5 + 1) = q + 6 * (i : Int) + 6 := by clear hw hw0 hw1 hw2 hw3 hw4; rw [wrap_id (by omega) (by omega)]; omega
      have hr : rd_T58 (marksProof n q) (i : Int) = (⟨(⟨q + 6 * (i : Int), q + 6 * (i : Int) + 1, q + 6 * (i : Int) + 2⟩ : S53), (⟨q + 6 * (i : Int) + 3, q + 6 * (i : Int) + 4, q + 6 * (i : Int) + 5⟩ : S53)⟩ : S58) := getD_at _ z58 (marksProof_at n q i ec)
      refine Ev.step (fun k => rfl) ?_
      simp only [laws_heldProofS.l0, if_pos c1, if_pos c2, hw, hr, hw0, hw1, hw2, hw3, hw4, hw5, if_true]
      rw [h2]
      exact ih (i + 1) ea eb
  have := key n 0 (by omega) (by omega)
  unfold laws_heldProofS.f
  have e0 : q + 6 * ((0 : Nat) : Int) = q := by omega
  rw [e0] at this
  exact this

end Go.Proofs.Ytdoakbcopnfgpaa.Pure
