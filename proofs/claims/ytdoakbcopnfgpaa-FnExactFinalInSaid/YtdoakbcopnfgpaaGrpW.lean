/-
Weights of groups, and quorums, in plain Lean.
Conditions: none beyond each lemma's own premises.
-/
import Derived.Test.YtdoakbcopnfgpaaGrpP
import Derived.Test.YtdoakbcopnfgpaaQ0
import Derived.Test.YtdoakbcopnfgpaaQ28
import Derived.Test.YtdoakbcopnfgpaaQ32
namespace Go.Proofs.Ytdoakbcopnfgpaa.Pure
open Go.RowKit Go.Proofs.Ytdoakbcopnfgpaa.Q Go.Proofs.Ytdoakbcopnfgpaa.Gen Go.Proofs.YtdoakbcopnfgpaaW.PrintWords Go.Proofs.YtdoakbcopnfgpaaW.PrintLast
set_option linter.unusedVariables false
set_option linter.unusedSimpArgs false

/-- The weights of the voters of a list, added to s. -/
def wtG (st : List Int) : List Int → Int → Int
  | [], s => s
  | x :: xs, s => wtG st xs (wrap64 (s + rd st x))
def sumG : List Int → Int → Int
  | [], s => s
  | x :: xs, s => sumG xs (wrap64 (s + x))
/-- The weight of a group. -/
def wtW (st ws : List Int) : Int := wtG st (grp ws) 0
def great (st ws : List Int) : Bool := decide (wrap64 (3 * wtW st ws) ≥ wrap64 (2 * sumG st 0))
theorem great_congr {st a b : List Int} (h : ∀ x, x ∈ a ↔ x ∈ b) : great st a = great st b := by
  unfold great wtW
  rw [grp_congr h]

theorem specSum_ev (l : List Int) (hl : l.length ≤ 1048576) : Ev (fun k => spec_l1Sum.f k l) (sumG l 0) := by
  unfold spec_l1Sum.f
  refine ev_list (σ := Int) (fun k s i => spec_l1Sum.l0 k s l (l.length : Int) i) (fun xs s => sumG xs s) l ?_ ?_ 0
  · intro s
    refine Ev.one fun k => ?_
    simp only [spec_l1Sum.l0]
    rw [if_neg (by omega)]
    rfl
  · intro i x xs s hd hi hx h
    have c1 : (i : Int) < (l.length : Int) := by omega
    have c2 : (0 : Int) ≤ (i : Int) := by omega
    have hw : wrap64 ((i : Int) + 1) = (i : Int) + 1 := wrap_id (by omega) (by omega)
    refine Ev.step (fun k => rfl) ?_
    simp only [spec_l1Sum.l0, if_pos c1, if_pos c2, rd_at hx, hw]
    exact h _
theorem implSum_ev (l : List Int) (hl : l.length ≤ 1048576) : Ev (fun k => impl_sumOf.f k l) (sumG l 0) := by
  unfold impl_sumOf.f
  refine ev_list (σ := Int) (fun k s i => impl_sumOf.l0 k s l (l.length : Int) i) (fun xs s => sumG xs s) l ?_ ?_ 0
  · intro s
    refine Ev.one fun k => ?_
    simp only [impl_sumOf.l0]
    rw [if_neg (by omega)]
    rfl
  · intro i x xs s hd hi hx h
    have c1 : (i : Int) < (l.length : Int) := by omega
    have c2 : (0 : Int) ≤ (i : Int) := by omega
    have hw : wrap64 ((i : Int) + 1) = (i : Int) + 1 := wrap_id (by omega) (by omega)
    refine Ev.step (fun k => rfl) ?_
    simp only [impl_sumOf.l0, if_pos c1, if_pos c2, rd_at hx, hw]
    exact h _
theorem specWeight_ev (st l : List Int) (hl : l.length ≤ 1048576) (hin : ∀ x ∈ l, 0 ≤ x ∧ x < (st.length : Int)) : Ev (fun k => spec_l1Weight.f k st l) (wtG st l 0) := by
  unfold spec_l1Weight.f
  refine ev_list (σ := Int) (fun k s i => spec_l1Weight.l0 k st s l (l.length : Int) i) (fun xs s => wtG st xs s) l ?_ ?_ 0
  · intro s
    refine Ev.one fun k => ?_
    simp only [spec_l1Weight.l0]
    rw [if_neg (by omega)]
    rfl
  · intro i x xs s hd hi hx h
    have c1 : (i : Int) < (l.length : Int) := by omega
    have c2 : (0 : Int) ≤ (i : Int) := by omega
    have q := hin x (List.mem_of_getElem? hx)
    have c3 : (0 : Int) ≤ x := q.1
    have c4 : x < (st.length : Int) := q.2
    have hw : wrap64 ((i : Int) + 1) = (i : Int) + 1 := wrap_id (by omega) (by omega)
    refine Ev.step (fun k => rfl) ?_
    simp only [spec_l1Weight.l0, if_pos c1, if_pos c2, rd_at hx, hw, if_pos c3, if_pos c4]
    exact h _

/-- The indices from i on, n of them. -/
def upto : Nat → Nat → List Int
  | _, 0 => []
  | i, n + 1 => (i : Int) :: upto (i + 1) n
theorem upto_r10 (n : Nat) (h : n ≤ 10) : upto 0 n = r10.take n := by
  have : n = 0 ∨ n = 1 ∨ n = 2 ∨ n = 3 ∨ n = 4 ∨ n = 5 ∨ n = 6 ∨ n = 7 ∨ n = 8 ∨ n = 9 ∨ n = 10 := by omega
  rcases this with h | h | h | h | h | h | h | h | h | h | h <;> subst h <;> rfl
theorem r10_drop (n : Nat) : ∀ x ∈ r10.drop n, (n : Int) ≤ x := by
  intro x hx
  obtain ⟨j, hj⟩ := List.mem_iff_getElem?.1 hx
  rw [List.getElem?_drop] at hj
  have hlt : n + j < r10.length := by
    have := List.getElem?_eq_some_iff.1 hj
    exact this.1
  rw [r10_at (n + j) hlt] at hj
  have := Option.some.inj hj
  omega
theorem upto_grp (ws : List Int) (n : Nat) (h : n ≤ 10) (hw : ∀ x ∈ ws, x < (n : Int)) : (upto 0 n).filter (fun x => decide (x ∈ ws)) = grp ws := by
  unfold grp
  rw [upto_r10 n h]
  have e : r10 = r10.take n ++ r10.drop n := (List.take_append_drop n r10).symm
  conv => rhs; rw [e, List.filter_append]
  have z : (r10.drop n).filter (fun x => decide (x ∈ ws)) = [] := by
    rw [List.filter_eq_nil_iff]
    intro x hx hd
    have h1 := r10_drop n x hx
    have h2 := hw x (of_decide_eq_true hd)
    omega
  rw [z, List.append_nil]
theorem implWeight_ev (st ws : List Int) (hs : st.length ≤ 10) (h : ∀ x ∈ ws, 0 ≤ x ∧ x < (st.length : Int)) : Ev (fun k => impl_weightOf.f k st ((mkF ws 0 : Nat) : Int)) (wtW st ws) := by
  have hm : mkF ws 0 < 1024 := mkF_lt ws 0 (by omega) (fun x hx => by have := h x hx; omega)
  have hb : ∀ j : Nat, (mkF ws 0).testBit j = decide ((j : Int) ∈ ws) := fun j => by
    rw [mkF_bit ws 0 j (fun x hx => (h x hx).1), Nat.zero_testBit, Bool.false_or]
  have key : ∀ (n i : Nat), st.length - i = n → i ≤ st.length → ∀ s, Ev (fun k => impl_weightOf.l0 k ((mkF ws 0 : Nat) : Int) s st (st.length : Int) (i : Int)) (wtG st ((upto i n).filter fun x => decide (x ∈ ws)) s) := by
    intro n
    induction n with
    | zero =>
      intro i h1 h2 s
      refine Ev.one fun k => ?_
      simp only [impl_weightOf.l0]
      rw [if_neg (by omega)]
      rfl
    | succ n ih =>
      intro i h1 h2 s
      have c1 : (i : Int) < (st.length : Int) := by omega
      have c2 : (0 : Int) ≤ (i : Int) := by omega
      have hw : wrap64 ((i : Int) + 1) = ((i + 1 : Nat) : Int) := by rw [wrap_id (by omega) (by omega)]; omega
      have bt := bit_test (mkF ws 0) i hm (by omega)
      rw [hb i, decide_eq_true_eq] at bt
      refine Ev.step (fun k => rfl) ?_
      simp only [impl_weightOf.l0, if_pos c1, if_pos c2, hw]
      by_cases e : (i : Int) ∈ ws
      · simp only [if_pos (bt.2 e)]
        refine (ih (i + 1) (by omega) (by omega) _).cast ?_
        rw [upto, List.filter_cons_of_pos (by simp [e])]
        rfl
      · simp only [if_neg (fun h2 => e (bt.1 h2))]
        refine (ih (i + 1) (by omega) (by omega) _).cast ?_
        rw [upto, List.filter_cons_of_neg (by simp [e])]
  unfold impl_weightOf.f
  refine (key st.length 0 (by omega) (by omega) 0).cast ?_
  unfold wtW
  rw [upto_grp ws st.length hs (fun x hx => (h x hx).2)]
theorem specGreat_ev (st ws : List Int) (hs : st.length ≤ 10) (h : ∀ x ∈ ws, 0 ≤ x ∧ x < (st.length : Int)) : Ev (fun k => spec_l1Great.f k st (grp ws)) (great st ws) := by
  unfold spec_l1Great.f great
  refine Ev.bind (specWeight_ev st (grp ws) (by have := grp_length ws; omega) (fun x hx => h x (mem_grp.1 hx).2)) ?_
  exact Ev.bind (specSum_ev st (by omega)) (Ev.now _)
theorem implQuorum_ev (st ws : List Int) (hs : st.length ≤ 10) (h : ∀ x ∈ ws, 0 ≤ x ∧ x < (st.length : Int)) : Ev (fun k => impl_isQuorum.f k st ((mkF ws 0 : Nat) : Int)) (great st ws) := by
  unfold impl_isQuorum.f great
  refine Ev.bind (implWeight_ev st ws hs h) ?_
  exact Ev.bind (implSum_ev st (by omega)) (Ev.now _)

end Go.Proofs.Ytdoakbcopnfgpaa.Pure
