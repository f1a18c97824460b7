/-
What the laws' helpers on votes and pools come to.
Conditions: none beyond each lemma's own premises.
-/
import Derived.Test.YthojcglddmadiaaGen
import Derived.Test.YthojcglddmadiaaQ0
import Derived.Test.YthojcglddmadiaaQ1
import Derived.Test.YthojcglddmadiaaQ14
import Derived.Test.YthojcglddmadiaaQ26
import Derived.Test.YthojcglddmadiaaQ38
import Derived.Test.YthojcglddmadiaaQ39
namespace Go.Proofs.Ythojcglddmadiaa.Pure
open Go.RowKit Go.Proofs.Ythojcglddmadiaa.Q Go.Proofs.Ythojcglddmadiaa.Gen Go.Proofs.YthojcglddmadiaaW.PrintWords Go.Proofs.YthojcglddmadiaaW.PrintLast
set_option linter.unusedVariables false
set_option linter.unusedSimpArgs false

theorem toVoteS_ev (l : List S105) (hl : l.length ≤ 1048576) : Ev (fun k => laws_toVoteS.f k l) (l.map fun x => (⟨x.f0, x.f1, x.f2⟩ : S86)) := by
  unfold laws_toVoteS.f
  have h1 : (0 : Int) ≤ (l.length : Int) := by omega
  have h2 : l.length ≤ 11728124029610 := by omega
  simp only [if_pos h1, Int.toNat_natCast, if_pos h2]
  refine ev_build (fun k ys i => laws_toVoteS.l0 k l ys i) l (fun x => (⟨x.f0, x.f1, x.f2⟩ : S86)) z86 ?_ ?_
  · intro ys hy
    refine Ev.one fun k => ?_
    simp only [laws_toVoteS.l0]
    rw [if_neg (by omega)]
  · intro i x ys r hy hi hx h
    have c1 : (i : Int) < (l.length : Int) := by omega
    have c2 : (0 : Int) ≤ (i : Int) := by omega
    have c3 : (i : Int) < (ys.length : Int) := by omega
    have hw : wrap64 ((i : Int) + 1) = (i : Int) + 1 := wrap_id (by omega) (by omega)
    have hr : rd_T105 l (i : Int) = x := getD_at l z105 hx
    refine Ev.step (fun k => rfl) ?_
    simp only [laws_toVoteS.l0, laws_toVote.f, Option.bind_some, if_pos c1, if_pos c2, if_pos c3, hw, Int.toNat_natCast, hr]
    exact h

theorem eqVoteS_ev (l : List S86) (hl : l.length ≤ 9223372036854775806) : Ev (fun k => laws_eqVoteS.f k l l) true := by
  unfold laws_eqVoteS.f
  simp only [if_true]
  refine ev_list (σ := Unit) (fun k _ i => laws_eqVoteS.l0 k l l i) (fun _ _ => true) l ?_ ?_ ()
  · intro s
    refine Ev.one fun k => ?_
    simp only [laws_eqVoteS.l0]
    rw [if_neg (by omega)]
  · intro i x xs s hd hi hx h
    have c1 : (i : Int) < (l.length : Int) := by omega
    have c2 : (0 : Int) ≤ (i : Int) := by omega
    have hw : wrap64 ((i : Int) + 1) = (i : Int) + 1 := wrap_id (by omega) (by omega)
    refine Ev.step (fun k => rfl) ?_
    simp only [laws_eqVoteS.l0, laws_eqVote.f, Option.bind_some, if_pos c1, if_pos c2, if_true, hw]
    exact h ()

theorem szVoteS_eq (l : List S105) (a : Int) (ha : 0 ≤ a) (ha2 : a ≤ 1048576) (hl : l.length ≤ 9223372036854775807) : laws_szVoteS.f l a = some (if (l.length : Int) ≤ a then a - (l.length : Int) else -1) := by
  unfold laws_szVoteS.f
  rw [wrap_id (by omega) (by omega)]
  by_cases h : (l.length : Int) ≤ a
  · rw [if_neg (by omega), if_pos h]
  · rw [if_pos (by omega), if_neg h]

def marksVote (n : Nat) (q : Int) : List S86 := (List.range n).map fun (i : Nat) => (⟨q + 3 * (i : Int), q + 3 * (i : Int) + 1, q + 3 * (i : Int) + 2⟩ : S86)
theorem marksVote_length (n : Nat) (q : Int) : (marksVote n q).length = n := by simp [marksVote]
theorem marksVote_at (n : Nat) (q : Int) (i : Nat) (h : i < n) : (marksVote n q)[i]? = some (⟨q + 3 * (i : Int), q + 3 * (i : Int) + 1, q + 3 * (i : Int) + 2⟩ : S86) := by simp [marksVote, h]
theorem markVoteS_ev (l : List S86) (q : Int) (hl : l.length ≤ 4194304) (h0 : 0 ≤ q) (h1 : q ≤ 1099511627776) : Ev (fun k => laws_markVoteS.f k l q) (q + 3 * (l.length : Int), marksVote l.length q) := by
  have key : ∀ (n i : Nat) (ys : List S86), l.length - i = n → i ≤ l.length → ys.length = l.length → (∀ j, j < i → ys[j]? = (marksVote l.length q)[j]?) →
      Ev (fun k => laws_markVoteS.l0 k ys (q + 3 * (i : Int)) (i : Int)) (q + 3 * (l.length : Int), marksVote l.length q) := by
    intro n
    induction n with
    | zero =>
      intro i ys e hi hy hm
      obtain rfl : i = l.length := by omega
      have hys : ys = marksVote l.length q := by
        apply List.ext_getElem?
        intro j
        by_cases hj : j < l.length
        · exact hm j hj
        · rw [List.getElem?_eq_none (by omega), List.getElem?_eq_none (by rw [marksVote_length]; omega)]
      refine Ev.one fun k => ?_
      simp only [laws_markVoteS.l0]
      rw [if_neg (by omega), hys]
    | succ n ih =>
      intro i ys e hi hy hm
      have c1 : (i : Int) < (ys.length : Int) := by omega
      have c2 : (0 : Int) ≤ (i : Int) := by omega
      have hw : wrap64 ((i : Int) + 1) = ((i + 1 : Nat) : Int) := by rw [wrap_id (by omega) (by omega)]; omega
      have hw0 : wrap64 (q + 3 * (i : Int) + 1) = q + 3 * (i : Int) + 1 := by rw [wrap_id (by omega) (by omega)]
      have hw1 : wrap64 (q + 3 * (i : Int) + 1 + 1) = q + 3 * (i : Int) + 2 := by rw [wrap_id (by omega) (by omega)]; omega
      have hw2 : wrap64 (q + 3 * (i : Int) + 2 + 1) = q + 3 * (i : Int) + 3 := by rw [wrap_id (by omega) (by omega)]; omega
      have hset : ∀ v : S86, rd_T86 (ys.set i v) (i : Int) = v := fun v => getD_at _ z86 (List.getElem?_set_self (by omega))
      refine Ev.step (fun k => rfl) ?_
      simp only [laws_markVoteS.l0, if_pos c1, if_pos c2, hw, Int.toNat_natCast, Option.bind_some, List.set_set, hset, hw0, hw1, hw2]
      have h2 : q + 3 * (i : Int) + 3 = q + 3 * ((i + 1 : Nat) : Int) := by omega
      rw [h2]
      refine ih (i + 1) _ (by omega) (by omega) (by simp [hy]) (fun j hj => ?_)
      rw [marksVote_at _ _ _ (by omega)]
      by_cases e2 : i = j
      · subst e2
        rw [List.getElem?_set_self (by omega)]
      · rw [List.getElem?_set_ne e2, hm j (by omega), marksVote_at _ _ _ (by omega)]
  have := key l.length 0 l (by omega) (by omega) rfl (by intro j hj; omega)
  unfold laws_markVoteS.f
  have e0 : q + 3 * ((0 : Nat) : Int) = q := by omega
  rw [e0] at this
  exact this

theorem heldVoteS_ev (n : Nat) (q : Int) (hn : n ≤ 4194304) (h0 : 0 ≤ q) (h1 : q ≤ 1099511627776) : Ev (fun k => laws_heldVoteS.f k (marksVote n q) q) (q + 3 * (n : Int)) := by
  have key : ∀ (m i : Nat), n - i = m → i ≤ n → Ev (fun k => laws_heldVoteS.l0 k (marksVote n q) (q + 3 * (i : Int)) (i : Int)) (q + 3 * (n : Int)) := by
    intro m
    induction m with
    | zero =>
      intro i e hi
      obtain rfl : i = n := by omega
      refine Ev.one fun k => ?_
      simp only [laws_heldVoteS.l0]
      rw [marksVote_length, if_neg (by omega)]
    | succ m ih =>
      intro i e hi
      have c1 : (i : Int) < ((marksVote n q).length : Int) := by rw [marksVote_length]; omega
      have c2 : (0 : Int) ≤ (i : Int) := by omega
      have hw : wrap64 ((i : Int) + 1) = ((i + 1 : Nat) : Int) := by rw [wrap_id (by omega) (by omega)]; omega
      have hw0 : wrap64 (q + 3 * (i : Int) + 1) = q + 3 * (i : Int) + 1 := by rw [wrap_id (by omega) (by omega)]
      have hw1 : wrap64 (q + 3 * (i : Int) + 1 + 1) = q + 3 * (i : Int) + 2 := by rw [wrap_id (by omega) (by omega)]; omega
      have hw2 : wrap64 (q + 3 * (i : Int) + 2 + 1) = q + 3 * (i : Int) + 3 := by rw [wrap_id (by omega) (by omega)]; omega
      have hr : rd_T86 (marksVote n q) (i : Int) = (⟨q + 3 * (i : Int), q + 3 * (i : Int) + 1, q + 3 * (i : Int) + 2⟩ : S86) := getD_at _ z86 (marksVote_at n q i (by omega))
      refine Ev.step (fun k => rfl) ?_
      simp only [laws_heldVoteS.l0, if_pos c1, if_pos c2, hw, hr, hw0, hw1, hw2, if_true]
      have h2 : q + 3 * (i : Int) + 3 = q + 3 * ((i + 1 : Nat) : Int) := by omega
      rw [h2]
      exact ih (i + 1) (by omega) (by omega)
  have := key n 0 (by omega) (by omega)
  unfold laws_heldVoteS.f
  have e0 : q + 3 * ((0 : Nat) : Int) = q := by omega
  rw [e0] at this
  exact this

theorem toPoolS_ev (l : List S105) (hl : l.length ≤ 1048576) : Ev (fun k => laws_toPool.f k l) (l.map fun x => (⟨x.f0, x.f1, x.f2⟩ : S86)) := by
  unfold laws_toPool.f
  exact Ev.bind (toVoteS_ev l hl) (Ev.now _)
theorem eqPoolS_ev (l : List S86) (hl : l.length ≤ 9223372036854775806) : Ev (fun k => laws_eqPool.f k l l) true := by
  unfold laws_eqPool.f
  refine Ev.bind (eqVoteS_ev l hl) ?_
  simp only [if_true]
  exact Ev.now _
theorem szPoolS_eq (l : List S105) (a : Int) (ha : 0 ≤ a) (ha2 : a ≤ 1048576) (hl : l.length ≤ 9223372036854775807) : laws_szPool.f l a = some (if (l.length : Int) ≤ a then a - (l.length : Int) else -1) := by
  unfold laws_szPool.f
  rw [szVoteS_eq l a ha ha2 hl]
  simp only [Option.bind_some]
  by_cases h : (l.length : Int) ≤ a
  · rw [if_pos h, if_neg (by omega)]
  · rw [if_neg h, if_pos (by omega)]
theorem markPoolS_ev (l : List S86) (q : Int) (hl : l.length ≤ 4194304) (h0 : 0 ≤ q) (h1 : q ≤ 1099511627776) : Ev (fun k => laws_markPool.f k l q) (q + 3 * (l.length : Int), marksVote l.length q) := by
  unfold laws_markPool.f
  exact Ev.bind (markVoteS_ev l q hl h0 h1) (Ev.now _)
theorem heldPoolS_ev (n : Nat) (q : Int) (hn : n ≤ 4194304) (h0 : 0 ≤ q) (h1 : q ≤ 1099511627776) : Ev (fun k => laws_heldPool.f k (marksVote n q) q) (q + 3 * (n : Int)) := by
  unfold laws_heldPool.f
  refine Ev.bind (heldVoteS_ev n q hn h0 h1) ?_
  have c : ¬ (q + 3 * (n : Int) < 0) := by omega
  simp only [if_neg c]
  exact Ev.now _

end Go.Proofs.Ythojcglddmadiaa.Pure
