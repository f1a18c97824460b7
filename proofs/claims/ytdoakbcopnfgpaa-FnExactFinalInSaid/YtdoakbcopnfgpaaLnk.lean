/-
What good links are, in plain Lean: the reference and the program say the same.
Conditions: none beyond each lemma's own premises.
-/
import Derived.Test.YtdoakbcopnfgpaaTreeB
import Derived.Test.YtdoakbcopnfgpaaBoth
import Derived.Test.YtdoakbcopnfgpaaQ0
import Derived.Test.YtdoakbcopnfgpaaQ6
import Derived.Test.YtdoakbcopnfgpaaQ7
import Derived.Test.YtdoakbcopnfgpaaQ17
import Derived.Test.YtdoakbcopnfgpaaQ18
namespace Go.Proofs.Ytdoakbcopnfgpaa.Pure
open Go.RowKit Go.Proofs.Ytdoakbcopnfgpaa.Q Go.Proofs.Ytdoakbcopnfgpaa.Gen Go.Proofs.YtdoakbcopnfgpaaW.PrintWords Go.Proofs.YtdoakbcopnfgpaaW.PrintLast
set_option linter.unusedVariables false
set_option linter.unusedSimpArgs false

abbrev L := S53

/-- A link of a good tree, of n voters. -/
def linkB (t : List B) (n : Nat) (x : L) : Bool := decide (0 ≤ x.f0 ∧ x.f0 ≤ (n : Int) - 1) && (decide (0 ≤ x.f1 ∧ x.f1 ≤ (t.length : Int) - 1) && (decide (0 ≤ x.f2 ∧ x.f2 ≤ (t.length : Int) - 1) && (decide (x.f1 ≠ x.f2) && abv t x.f1 x.f2)))
theorem specOne_ev {t : List B} (hg : GT t) (a b : Int) (hb : b < t.length) : Ev (fun k => spec_l10One.f k t a b) (decide (a ≠ b) && abv t a b) := by
  unfold spec_l10One.f
  by_cases h : a = b
  · simp only [if_pos h]
    exact (Ev.now false).cast (by simp [h])
  · simp only [if_neg h]
    refine Ev.bind (specAbove_ev hg a b hb) ?_
    exact (Ev.now _).cast (by simp [h])
theorem abv_le {t : List B} (hg : GT t) {a b : Int} (hb : b < t.length) (h : abv t a b = true) : 0 ≤ a ∧ a ≤ b := mem_way hg b hb a (of_decide_eq_true h)
theorem implIsLink_ev {t : List B} (hg : GT t) (st : List Int) (hs : st.length ≤ 1048576) (x : L) : Ev (fun k => impl_isLink.f k t st x.f0 x.f1 x.f2) (linkB t st.length x) := by
  have h24 := hg.hi
  have lo := hg.lo
  unfold impl_isLink.f linkB
  simp only [within_eq, Option.bind_some, wrap_id (show -9223372036854775808 ≤ (st.length : Int) - 1 by omega) (by omega), wrap_id (show -9223372036854775808 ≤ (t.length : Int) - 1 by omega) (by omega)]
  by_cases c0 : 0 ≤ x.f0 ∧ x.f0 ≤ (st.length : Int) - 1
  · simp only [decide_eq_true c0, if_true, Bool.true_and]
    by_cases c2 : 0 ≤ x.f2 ∧ x.f2 ≤ (t.length : Int) - 1
    · simp only [decide_eq_true c2, if_true, Bool.true_and, wrap_id (show -9223372036854775808 ≤ x.f2 - 1 by omega) (by omega)]
      by_cases c1 : 0 ≤ x.f1 ∧ x.f1 ≤ x.f2 - 1
      · simp only [decide_eq_true c1, if_true]
        refine Ev.bind (implAbove_ev hg x.f1 x.f2 c1.1 c2.1 (by omega)) ?_
        refine (Ev.now _).cast ?_
        rw [decide_eq_true (show 0 ≤ x.f1 ∧ x.f1 ≤ (t.length : Int) - 1 by omega), decide_eq_true (show x.f1 ≠ x.f2 by omega)]
        rfl
      · simp only [decide_eq_false c1, Bool.false_eq_true, if_false]
        refine (Ev.now _).cast ?_
        cases e : (decide (0 ≤ x.f1 ∧ x.f1 ≤ (t.length : Int) - 1) && (decide (x.f1 ≠ x.f2) && abv t x.f1 x.f2)) with
        | false => rfl
        | true =>
          rw [Bool.and_eq_true, Bool.and_eq_true, decide_eq_true_eq, decide_eq_true_eq] at e
          have := abv_le hg (by omega) e.2.2
          omega
    · simp only [decide_eq_false c2, Bool.false_eq_true, if_false, Bool.false_and, Bool.and_false]
      exact Ev.now _
  · simp only [decide_eq_false c0, Bool.false_eq_true, if_false, Bool.false_and]
    exact Ev.now _

/-- Good links. -/
noncomputable def linksB (t : List B) (st : List Int) (l : List L) : Bool := bothB t st && (decide (l.length ≤ 40) && l.all (linkB t st.length))
structure GL (t : List B) (st : List Int) (l : List L) : Prop where
  tree : GT t
  st0 : 1 ≤ st.length
  st1 : st.length ≤ 10
  len : l.length ≤ 40
  who0 : ∀ x ∈ l, 0 ≤ x.f0 ∧ x.f0 < (st.length : Int)
  from0 : ∀ x ∈ l, 0 ≤ x.f1 ∧ x.f1 < (t.length : Int)
  to0 : ∀ x ∈ l, 0 ≤ x.f2 ∧ x.f2 < (t.length : Int)
theorem linksB_gl {t : List B} {st : List Int} {l : List L} (h : linksB t st l = true) : GL t st l := by
  unfold linksB bothB stakesB at h
  simp only [Bool.and_eq_true, decide_eq_true_eq, List.all_eq_true, goodT_true] at h
  obtain ⟨⟨a, b, c⟩, d, e⟩ := h
  refine ⟨a, by omega, by omega, d, ?_, ?_, ?_⟩ <;> intro x hx <;> have q := e x hx <;> unfold linkB at q <;> simp only [Bool.and_eq_true, decide_eq_true_eq] at q <;> omega
theorem specLinks_ev (t : List B) (st : List Int) (l : List L) (ht : t.length ≤ 1048576) (hs : st.length ≤ 1048576) (hl : l.length ≤ 1048576) : Ev (fun k => spec_GoodLinks.f k t st l) (linksB t st l) := by
  unfold spec_GoodLinks.f linksB
  refine Ev.bind (specBoth_ev t st ht hs) ?_
  cases hb : bothB t st with
  | false =>
    simp only [Bool.false_eq_true, if_false, Bool.false_and]
    exact Ev.one fun k => by simp only [spec_GoodLinks.j0, if_true]
  | true =>
    have g : GT t := by
      unfold bothB at hb
      rw [Bool.and_eq_true] at hb
      exact goodT_true.1 hb.1
    have h24 := g.hi
    simp only [if_true, Bool.true_and]
    by_cases c : l.length ≤ 40
    · have c2 : ¬ ((l.length : Int) > 40) := by omega
      simp only [decide_eq_false c2, decide_eq_true c, Bool.true_and]
      refine Ev.step (fun k => rfl) ?_
      simp only [spec_GoodLinks.j0, Bool.false_eq_true, if_false]
      refine ev_list (σ := Unit) (fun k _ i => spec_GoodLinks.l0 k t st l (l.length : Int) i) (fun xs _ => xs.all (linkB t st.length)) l ?_ ?_ ()
      · intro s
        refine Ev.one fun k => ?_
        simp only [spec_GoodLinks.l0]
        rw [if_neg (by omega)]
        rfl
      · intro i x xs s hd hi hx h
        have c1 : (i : Int) < (l.length : Int) := by omega
        have c3 : (0 : Int) ≤ (i : Int) := by omega
        have hw : wrap64 ((i : Int) + 1) = (i : Int) + 1 := wrap_id (by omega) (by omega)
        have hr : rd_T53 l (i : Int) = x := getD_at l z53 hx
        refine Ev.step (fun k => rfl) ?_
        simp only [spec_GoodLinks.l0, if_pos c1, if_pos c3, hr, hw, l1In_eq, Option.bind_some, List.all_cons, wrap_id (show -9223372036854775808 ≤ (st.length : Int) - 1 by omega) (by omega), wrap_id (show -9223372036854775808 ≤ (t.length : Int) - 1 by omega) (by omega)]
        have fin : ∀ {b : Bool}, b = false → Ev (fun _ : Nat => some false) (b && xs.all (linkB t st.length)) := fun e => (Ev.now false).cast (by rw [e]; rfl)
        by_cases d0 : 0 ≤ x.f0 ∧ x.f0 ≤ (st.length : Int) - 1
        · simp only [decide_eq_true d0, if_true]
          by_cases d1 : 0 ≤ x.f1 ∧ x.f1 ≤ (t.length : Int) - 1
          · simp only [decide_eq_true d1, if_true]
            by_cases d2 : 0 ≤ x.f2 ∧ x.f2 ≤ (t.length : Int) - 1
            · simp only [decide_eq_true d2, if_true]
              refine Ev.bind (specOne_ev g x.f1 x.f2 (by omega)) ?_
              cases e : (decide (x.f1 ≠ x.f2) && abv t x.f1 x.f2) with
              | true =>
                simp only [if_true]
                refine (h ()).cast ?_
                unfold linkB
                rw [e, decide_eq_true d0, decide_eq_true d1, decide_eq_true d2]
                rfl
              | false =>
                simp only [Bool.false_eq_true, if_false]
                exact fin (by unfold linkB; rw [e, decide_eq_true d0, decide_eq_true d1, decide_eq_true d2]; rfl)
            · simp only [decide_eq_false d2, Bool.false_eq_true, if_false]
              exact fin (by unfold linkB; rw [decide_eq_false d2]; simp)
          · simp only [decide_eq_false d1, Bool.false_eq_true, if_false]
            exact fin (by unfold linkB; rw [decide_eq_false d1]; simp)
        · simp only [decide_eq_false d0, Bool.false_eq_true, if_false]
          exact fin (by unfold linkB; rw [decide_eq_false d0]; simp)
    · have c2 : (l.length : Int) > 40 := by omega
      simp only [decide_eq_true c2, decide_eq_false c, Bool.false_and]
      exact Ev.one fun k => by simp only [spec_GoodLinks.j0, if_true]
theorem implLinks_ev (t : List B) (st : List Int) (l : List L) (hs : st.length ≤ 1048576) : Ev (fun k => impl_areLinks.f k t st l) (linksB t st l) := by
  unfold impl_areLinks.f linksB
  refine Ev.bind (implBoth_ev t st) ?_
  cases hb : bothB t st with
  | false => simp only [Bool.false_eq_true, if_false, Bool.false_and]; exact Ev.now _
  | true =>
    have g : GT t := by
      unfold bothB at hb
      rw [Bool.and_eq_true] at hb
      exact goodT_true.1 hb.1
    simp only [if_true, Bool.true_and]
    by_cases c : l.length ≤ 40
    · have c2 : (l.length : Int) ≤ 40 := by omega
      simp only [if_pos c2, decide_eq_true c, Bool.true_and]
      refine Ev.bind (anyO_ev (fun x _ => ?_) : Ev (fun k => anyO (impl_areLinks_1.f k t st) l) (l.any fun x => !linkB t st.length x)) ?_
      · unfold impl_areLinks_1.f
        exact Ev.bind (implIsLink_ev g st hs x) (Ev.now _)
      · refine (Ev.now _).cast ?_
        rw [List.all_eq_not_any_not]
    · have c2 : ¬ ((l.length : Int) ≤ 40) := by omega
      simp only [if_neg c2, decide_eq_false c, Bool.false_and]
      exact Ev.now _

end Go.Proofs.Ytdoakbcopnfgpaa.Pure
