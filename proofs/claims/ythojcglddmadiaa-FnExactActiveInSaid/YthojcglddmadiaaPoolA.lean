/-
Votes and good pools in plain Lean: the reference and the program say the same.
Conditions: none beyond each lemma's own premises.
-/
import Derived.Test.YthojcglddmadiaaBoth
import Derived.Test.YthojcglddmadiaaQ0
import Derived.Test.YthojcglddmadiaaQ3
import Derived.Test.YthojcglddmadiaaQ4
import Derived.Test.YthojcglddmadiaaQ9
import Derived.Test.YthojcglddmadiaaQ19
import Derived.Test.YthojcglddmadiaaQ20
import Derived.Test.YthojcglddmadiaaQ21
import Derived.Test.YthojcglddmadiaaQ22
namespace Go.Proofs.Ythojcglddmadiaa.Pure
open Go.RowKit Go.Proofs.Ythojcglddmadiaa.Q Go.Proofs.Ythojcglddmadiaa.Gen Go.Proofs.YthojcglddmadiaaW.PrintWords Go.Proofs.YthojcglddmadiaaW.PrintLast
set_option linter.unusedVariables false
set_option linter.unusedSimpArgs false

abbrev V := S86
def voteB (t : List B) (n : Nat) (v : V) : Bool := decide (0 ≤ v.f0 ∧ v.f0 ≤ (n : Int) - 1) && (decide (1 ≤ v.f1 ∧ v.f1 ≤ 4000) && (decide (0 ≤ v.f2 ∧ v.f2 ≤ (t.length : Int) - 1) && decide ((rd_T73 t v.f2).f1 ≤ v.f1)))
def lessB (a b : V) : Bool := if a.f0 = b.f0 then (if a.f1 = b.f1 then decide (a.f2 < b.f2) else decide (a.f1 < b.f1)) else decide (a.f0 < b.f0)
theorem specVote_eq (t : List B) (st : List Int) (v : V) (ht : t.length ≤ 1048576) (hs : st.length ≤ 1048576) : spec_l6Vote.f t st v.f0 v.f1 v.f2 = some (voteB t st.length v) := by
  unfold spec_l6Vote.f voteB
  simp only [l1In_eq, Option.bind_some, wrap_id (show -9223372036854775808 ≤ (st.length : Int) - 1 by omega) (by omega)]
  by_cases c0 : 0 ≤ v.f0 ∧ v.f0 ≤ (st.length : Int) - 1
  · simp only [decide_eq_true c0, if_true, Bool.true_and]
    by_cases c1 : 1 ≤ v.f1 ∧ v.f1 ≤ 4000
    · simp only [decide_eq_true c1, if_true, Bool.true_and]
      by_cases c2 : v.f2 ≥ 0
      · have c2' : 0 ≤ v.f2 := c2
        simp only [if_pos c2, if_pos c2']
        by_cases c3 : v.f2 < (t.length : Int)
        · simp only [if_pos c3, decide_eq_true (show 0 ≤ v.f2 ∧ v.f2 ≤ (t.length : Int) - 1 by omega), Bool.true_and]
        · simp only [if_neg c3, decide_eq_false (show ¬ (0 ≤ v.f2 ∧ v.f2 ≤ (t.length : Int) - 1) by omega), Bool.false_and]
      · simp only [if_neg c2, decide_eq_false (show ¬ (0 ≤ v.f2 ∧ v.f2 ≤ (t.length : Int) - 1) by omega), Bool.false_and]
    · simp only [decide_eq_false c1, Bool.false_eq_true, if_false, Bool.false_and]
  · simp only [decide_eq_false c0, Bool.false_eq_true, if_false, Bool.false_and]
theorem implVote_eq (t : List B) (st : List Int) (v : V) (ht : t.length ≤ 1048576) (hs : st.length ≤ 1048576) : impl_isVote.f t st v.f0 v.f1 v.f2 = some (voteB t st.length v) := by
  unfold impl_isVote.f voteB
  simp only [within_eq, Option.bind_some, wrap_id (show -9223372036854775808 ≤ (st.length : Int) - 1 by omega) (by omega), wrap_id (show -9223372036854775808 ≤ (t.length : Int) - 1 by omega) (by omega)]
  by_cases c0 : 0 ≤ v.f0 ∧ v.f0 ≤ (st.length : Int) - 1
  · simp only [decide_eq_true c0, if_true, Bool.true_and]
    by_cases c1 : 1 ≤ v.f1 ∧ v.f1 ≤ 4000
    · simp only [decide_eq_true c1, if_true, Bool.true_and]
      by_cases c2 : 0 ≤ v.f2 ∧ v.f2 ≤ (t.length : Int) - 1
      · have c3 : v.f2 < (t.length : Int) := by omega
        simp only [decide_eq_true c2, if_true, if_pos c2.1, if_pos c3, Bool.true_and]
      · simp only [decide_eq_false c2, Bool.false_eq_true, if_false, Bool.false_and]
    · simp only [decide_eq_false c1, Bool.false_eq_true, if_false, Bool.false_and]
  · simp only [decide_eq_false c0, Bool.false_eq_true, if_false, Bool.false_and]
theorem specLess_eq (a b : V) : spec_l6Less.f a.f0 a.f1 a.f2 b.f0 b.f1 b.f2 = some (lessB a b) := by
  unfold spec_l6Less.f lessB
  split
  · split <;> rfl
  · rfl

/-! ### how the program compares two votes -/
def cmpI (a b : Int) : Int := if a < b then -1 else if a > b then 1 else 0
theorem compare_eq (a b : Int) : cmp_Compare_int.f a b = some (cmpI a b) := by
  unfold cmp_Compare_int.f cmp_isNaN_int.f cmpI
  simp only [bne_self_eq_false, Option.bind_some, Bool.false_eq_true, if_false]
  (repeat' split) <;> rfl
theorem or_loop (l : List Int) (hl : l.length ≤ 1048576) : Ev (fun k => cmp_Or_int.f k l) ((l.find? fun x => decide (x ≠ 0)).getD 0) := by
  unfold cmp_Or_int.f
  refine ev_list (σ := Unit) (fun k _ i => cmp_Or_int.l0 k 0 l (l.length : Int) i) (fun xs _ => (xs.find? fun x => decide (x ≠ 0)).getD 0) l ?_ ?_ ()
  · intro s
    refine Ev.one fun k => ?_
    simp only [cmp_Or_int.l0]
    rw [if_neg (by omega)]
    rfl
  · intro i x xs s hd hi hx h
    have c1 : (i : Int) < (l.length : Int) := by omega
    have c2 : (0 : Int) ≤ (i : Int) := by omega
    have hw : wrap64 ((i : Int) + 1) = (i : Int) + 1 := wrap_id (by omega) (by omega)
    refine Ev.step (fun k => rfl) ?_
    simp only [cmp_Or_int.l0, if_pos c1, if_pos c2, rd_at hx, hw]
    by_cases e : x = 0
    · simp only [if_pos e]
      refine (h ()).cast ?_
      rw [List.find?_cons_of_neg (by simp [e])]
    · simp only [if_neg e]
      refine (Ev.now x).cast ?_
      rw [List.find?_cons_of_pos (by simp [e])]
      rfl
def cmpV (a b : V) : Int := (([cmpI a.f0 b.f0, cmpI a.f1 b.f1, cmpI a.f2 b.f2] : List Int).find? fun x => decide (x ≠ 0)).getD 0
theorem implCompare_ev (a b : V) : Ev (fun k => impl_compareVotes.f k a.f0 a.f1 a.f2 b.f0 b.f1 b.f2) (cmpV a b) := by
  unfold impl_compareVotes.f cmpV
  simp only [compare_eq, Option.bind_some]
  exact Ev.bind (or_loop _ (by simp)) (Ev.now _)
theorem cmpI_cases (a b : Int) : (a < b ∧ cmpI a b = -1) ∨ (a = b ∧ cmpI a b = 0) ∨ (b < a ∧ cmpI a b = 1) := by
  unfold cmpI
  by_cases h : a < b
  · exact .inl ⟨h, if_pos h⟩
  · by_cases h2 : a > b
    · exact .inr (.inr ⟨h2, by rw [if_neg h, if_pos h2]⟩)
    · exact .inr (.inl ⟨by omega, by rw [if_neg h, if_neg h2]⟩)
theorem cmpV_neg (a b : V) : (cmpV a b ≥ 0) ↔ lessB a b = false := by
  unfold cmpV lessB
  rcases cmpI_cases a.f0 b.f0 with ⟨h0, e0⟩ | ⟨h0, e0⟩ | ⟨h0, e0⟩
  · rw [e0, if_neg (by omega), decide_eq_true h0]
    simp [List.find?]
  · rw [e0, if_pos h0]
    rcases cmpI_cases a.f1 b.f1 with ⟨h1, e1⟩ | ⟨h1, e1⟩ | ⟨h1, e1⟩
    · rw [e1, if_neg (by omega), decide_eq_true h1]
      simp [List.find?]
    · rw [e1, if_pos h1]
      rcases cmpI_cases a.f2 b.f2 with ⟨h2, e2⟩ | ⟨h2, e2⟩ | ⟨h2, e2⟩
      · rw [e2, decide_eq_true h2]
        simp [List.find?]
      · rw [e2, decide_eq_false (by omega)]
        simp [List.find?]
      · rw [e2, decide_eq_false (by omega)]
        simp [List.find?]
    · rw [e1, if_neg (by omega), decide_eq_false (by omega)]
      simp [List.find?]
  · rw [e0, if_neg (by omega), decide_eq_false (by omega)]
    simp [List.find?]

/-! ### good pools -/
/-- Rising behind y. -/
def srt : V → List V → Bool
  | _, [] => true
  | y, x :: xs => lessB y x && srt x xs
def rises : List V → Bool
  | [] => true
  | x :: xs => srt x xs
def okV (t : List B) (n : Nat) : Option V → List V → Bool
  | _, [] => true
  | p, x :: xs => voteB t n x && ((match p with | none => true | some y => lessB y x) && okV t n (some x) xs)
theorem okV_cons (t : List B) (n : Nat) (p : Option V) (x : V) (xs : List V) : okV t n p (x :: xs) = (voteB t n x && ((match p with | none => true | some y => lessB y x) && okV t n (some x) xs)) := by
  cases p <;> rfl
theorem okV_some (t : List B) (n : Nat) : ∀ (xs : List V) (y : V), okV t n (some y) xs = (xs.all (voteB t n) && srt y xs)
  | [], y => rfl
  | x :: xs, y => by
    rw [okV, okV_some t n xs x, List.all_cons, srt]
    cases voteB t n x <;> cases lessB y x <;> cases xs.all (voteB t n) <;> cases srt x xs <;> rfl
theorem okV_none (t : List B) (n : Nat) (l : List V) : okV t n none l = (l.all (voteB t n) && rises l) := by
  cases l with
  | nil => rfl
  | cons x xs =>
    rw [okV, okV_some, List.all_cons, rises]
    cases voteB t n x <;> cases xs.all (voteB t n) <;> cases srt x xs <;> rfl
noncomputable def poolB (t : List B) (st : List Int) (l : List V) : Bool := bothB t st && (decide (l.length ≤ 60) && (l.all (voteB t st.length) && rises l))
def prev (l : List V) : Nat → Option V
  | 0 => none
  | j + 1 => l[j]?
theorem specPool_ev (t : List B) (st : List Int) (l : List V) (ht : t.length ≤ 1048576) (hs : st.length ≤ 1048576) (hl : l.length ≤ 1048576) : Ev (fun k => spec_GoodPool.f k t st l) (poolB t st l) := by
  have key : ∀ (n i : Nat), l.length - i = n → i ≤ l.length → Ev (fun k => spec_GoodPool.l0 k t st l (l.length : Int) (i : Int) l) (okV t st.length (prev l i) (l.drop i) && (bothB t st && decide (l.length ≤ 60))) := by
    intro n
    induction n with
    | zero =>
      intro i h1 h2
      obtain rfl : i = l.length := by omega
      have c1 : ¬ ((l.length : Int) < (l.length : Int)) := by omega
      refine Ev.step (fun k => rfl) ?_
      simp only [spec_GoodPool.l0, if_neg c1, List.drop_length]
      refine Ev.bind (specBoth_ev t st ht hs) ?_
      cases hb : bothB t st with
      | false => simp only [Bool.false_eq_true, if_false]; exact (Ev.now _).cast (by simp [okV])
      | true =>
        simp only [if_true]
        refine (Ev.now _).cast ?_
        simp only [okV, Bool.true_and]
        exact decide_eq_decide.2 (by omega)
    | succ n ih =>
      intro i h1 h2
      have hi : i < l.length := by omega
      have c1 : (i : Int) < (l.length : Int) := by omega
      have c2 : (0 : Int) ≤ (i : Int) := by omega
      have hw : wrap64 ((i : Int) + 1) = ((i + 1 : Nat) : Int) := by rw [wrap_id (by omega) (by omega)]; omega
      have hd : l.drop i = l[i] :: l.drop (i + 1) := List.drop_eq_getElem_cons hi
      have hr : rd_T86 l (i : Int) = l[i] := getD_at l z86 (List.getElem?_eq_getElem hi)
      have hp : prev l (i + 1) = some l[i] := List.getElem?_eq_getElem hi
      have ih' := ih (i + 1) (by omega) (by omega)
      rw [hp] at ih'
      refine Ev.step (fun k => rfl) ?_
      simp only [spec_GoodPool.l0, if_pos c1, if_pos c2, hr, hw, specVote_eq t st l[i] ht hs, Option.bind_some]
      rw [hd, okV_cons]
      cases hv : voteB t st.length l[i] with
      | false => simp only [Bool.false_eq_true, if_false, Bool.false_and]; exact Ev.now _
      | true =>
        simp only [if_true, Bool.true_and]
        cases i with
        | zero =>
          have c3 : ¬ (((0 : Nat) : Int) > 0) := by omega
          simp only [if_neg c3]
          exact ih'.cast (by simp [prev])
        | succ j =>
          have c3 : ((j + 1 : Nat) : Int) > 0 := by omega
          have w2 : wrap64 (((j + 1 : Nat) : Int) - 1) = (j : Int) := by rw [wrap_id (by omega) (by omega)]; omega
          have c4 : (0 : Int) ≤ (j : Int) := by omega
          have c5 : (j : Int) < (l.length : Int) := by omega
          have hj : j < l.length := by omega
          have hrj : rd_T86 l (j : Int) = l[j] := getD_at l z86 (List.getElem?_eq_getElem hj)
          have hpj : prev l (j + 1) = some l[j] := List.getElem?_eq_getElem hj
          simp only [if_pos c3, w2, if_pos c4, if_pos c5, hrj, specLess_eq l[j] l[j + 1], Option.bind_some, hpj]
          cases hq : lessB l[j] l[j + 1] with
          | false => simp only [Bool.false_eq_true, if_false, Bool.false_and]; exact Ev.now _
          | true => simp only [if_true, Bool.true_and]; exact ih'
  unfold spec_GoodPool.f
  refine (key l.length 0 (by omega) (by omega)).cast ?_
  show (okV t st.length none (l.drop 0) && (bothB t st && decide (l.length ≤ 60))) = poolB t st l
  rw [List.drop_zero, okV_none]
  unfold poolB
  cases bothB t st <;> cases decide (l.length ≤ 60) <;> cases l.all (voteB t st.length) <;> cases rises l <;> rfl
theorem implVotes_ev (t : List B) (st : List Int) (l : List V) (ht : t.length ≤ 1048576) (hs : st.length ≤ 1048576) : Ev (fun k => impl_areVotes.f k t st l) (bothB t st && l.all (voteB t st.length)) := by
  unfold impl_areVotes.f
  refine Ev.bind (implBoth_ev t st) ?_
  cases hb : bothB t st with
  | false => simp only [Bool.false_eq_true, if_false, Bool.false_and]; exact Ev.now _
  | true =>
    have hp : ∀ x ∈ l, impl_areVotes_1.f t st x = some (!voteB t st.length x) := fun x _ => by
      unfold impl_areVotes_1.f
      rw [implVote_eq t st x ht hs]
      rfl
    simp only [if_true, Bool.true_and, anyO_total hp, Option.bind_some]
    refine (Ev.now _).cast ?_
    rw [List.all_eq_not_any_not]
theorem implPool_ev (t : List B) (st : List Int) (l : List V) (ht : t.length ≤ 1048576) (hs : st.length ≤ 1048576) : Ev (fun k => impl_isPool.f k t st l) (poolB t st l) := by
  have no : Ev (fun k => impl_isPool.j0 k true l) false := Ev.one fun k => by simp only [impl_isPool.j0, if_true]
  unfold impl_isPool.f
  by_cases c : l.length ≤ 60
  · have c0 : ¬ ((l.length : Int) > 60) := by omega
    have key : ∀ (n i : Nat), l.length - i = n → (hi1 : 1 ≤ i) → (hi : i ≤ l.length) → Ev (fun k => impl_isPool.l0 k (i : Int) l) (srt (l[i - 1]'(by omega)) (l.drop i)) := by
      intro n
      induction n with
      | zero =>
        intro i h1 h2 h3
        obtain rfl : i = l.length := by omega
        refine Ev.one fun k => ?_
        simp only [impl_isPool.l0]
        rw [if_neg (by omega), List.drop_length]
        rfl
      | succ n ih =>
        intro i h1 h2 h3
        obtain ⟨j, rfl⟩ : ∃ j, i = j + 1 := ⟨i - 1, by omega⟩
        have hi : j + 1 < l.length := by omega
        have hj : j < l.length := by omega
        have c1 : ((j + 1 : Nat) : Int) < (l.length : Int) := by omega
        have c2 : (0 : Int) ≤ ((j + 1 : Nat) : Int) := by omega
        have w2 : wrap64 (((j + 1 : Nat) : Int) - 1) = (j : Int) := by rw [wrap_id (by omega) (by omega)]; omega
        have c4 : (0 : Int) ≤ (j : Int) := by omega
        have c5 : (j : Int) < (l.length : Int) := by omega
        have hw : wrap64 (((j + 1 : Nat) : Int) + 1) = ((j + 1 + 1 : Nat) : Int) := by rw [wrap_id (by omega) (by omega)]; omega
        have hd : l.drop (j + 1) = l[j + 1] :: l.drop (j + 1 + 1) := List.drop_eq_getElem_cons hi
        have hr : rd_T86 l ((j + 1 : Nat) : Int) = l[j + 1] := getD_at l z86 (List.getElem?_eq_getElem hi)
        have hrj : rd_T86 l (j : Int) = l[j] := getD_at l z86 (List.getElem?_eq_getElem hj)
        refine Ev.step (fun k => rfl) ?_
        simp only [impl_isPool.l0, if_pos c1, w2, if_pos c4, if_pos c5, if_pos c2, hr, hrj, hw]
        refine Ev.bind (implCompare_ev l[j] l[j + 1]) ?_
        rw [hd]
        simp only [Nat.add_sub_cancel, srt]
        by_cases e : cmpV l[j] l[j + 1] ≥ 0
        · simp only [if_pos e, (cmpV_neg _ _).1 e, Bool.false_and]
          exact Ev.now _
        · have e2 : lessB l[j] l[j + 1] = true := by
            cases h : lessB l[j] l[j + 1] with
            | true => rfl
            | false => exact absurd ((cmpV_neg _ _).2 h) e
          simp only [if_neg e, e2, Bool.true_and]
          exact ih (j + 1 + 1) (by omega) (by omega) (by omega)
    simp only [if_neg c0]
    refine Ev.bind (implVotes_ev t st l ht hs) ?_
    unfold poolB
    cases hb : bothB t st with
    | false => simp only [Bool.false_and, Bool.not_false]; exact no
    | true =>
      cases hv : l.all (voteB t st.length) with
      | false => simp only [Bool.and_false, Bool.false_and, Bool.not_false]; exact no
      | true =>
        simp only [Bool.and_true, Bool.true_and, Bool.not_true, decide_eq_true c]
        refine Ev.step (fun k => rfl) ?_
        simp only [impl_isPool.j0, Bool.false_eq_true, if_false]
        cases hl : l with
        | nil =>
          refine Ev.one fun k => ?_
          simp only [impl_isPool.l0]
          rw [if_neg (by simp)]
          rfl
        | cons x xs =>
          have := key (l.length - 1) 1 rfl (by omega) (by rw [hl]; simp)
          simp only [hl] at this
          exact this
  · have c0 : (l.length : Int) > 60 := by omega
    simp only [if_pos c0]
    refine no.cast ?_
    unfold poolB
    rw [decide_eq_false c]
    simp
/-- A good pool. -/
structure GP (t : List B) (st : List Int) (l : List V) : Prop where
  tree : GT t
  st0 : 1 ≤ st.length
  st1 : st.length ≤ 10
  st2 : ∀ x ∈ st, 1 ≤ x ∧ x ≤ 1000
  len : l.length ≤ 60
  vote : ∀ v ∈ l, (0 ≤ v.f0 ∧ v.f0 < (st.length : Int)) ∧ (1 ≤ v.f1 ∧ v.f1 ≤ 4000) ∧ (0 ≤ v.f2 ∧ v.f2 < (t.length : Int))
  rise : rises l = true
theorem poolB_gp {t : List B} {st : List Int} {l : List V} (h : poolB t st l = true) : GP t st l := by
  unfold poolB bothB stakesB at h
  simp only [Bool.and_eq_true, decide_eq_true_eq, List.all_eq_true, goodT_true] at h
  obtain ⟨⟨a, b, c⟩, d, e, f⟩ := h
  refine ⟨a, by omega, by omega, c, d, fun v hv => ?_, f⟩
  have q := e v hv
  unfold voteB at q
  simp only [Bool.and_eq_true, decide_eq_true_eq] at q
  omega

end Go.Proofs.Ythojcglddmadiaa.Pure
