/-
The plain statements on alias tables: GoodTable, PickFrom and MassOf return what the reference's return.
Conditions: none beyond each lemma's own premises.
-/
import Derived.Test.YtipogfkoefllbaaGen
import Derived.Test.YtipogfkoefllbaaPureA
import Derived.Test.YtipogfkoefllbaaQ0
import Derived.Test.YtipogfkoefllbaaQ5
import Derived.Test.YtipogfkoefllbaaQ6
import Derived.Test.YtipogfkoefllbaaQ7
import Derived.Test.YtipogfkoefllbaaQ8
import Derived.Test.YtipogfkoefllbaaQ9
namespace Go.Proofs.Ytipogfkoefllbaa.Pure
open Go.RowKit Go.Proofs.Ytipogfkoefllbaa.Q Go.Proofs.Ytipogfkoefllbaa.Gen Go.Proofs.YtipogfkoefllbaaW.PrintWords Go.Proofs.YtipogfkoefllbaaW.PrintLast
set_option linter.unusedVariables false
set_option linter.unusedSimpArgs false

abbrev Cl := S74
def cellOK (n : Nat) (each : Int) (c : Cl) : Bool := decide (0 ≤ c.f0 ∧ c.f0 ≤ each) && decide (0 ≤ c.f1 ∧ c.f1 ≤ (n : Int) - 1)
def goodTab (l : List Cl) (each : Int) : Bool := decide (1 ≤ (l.length : Int) ∧ (l.length : Int) ≤ 12) && (decide (1 ≤ each ∧ each ≤ 12000) && l.all (cellOK l.length each))

theorem rdC_at {l : List Cl} {i : Nat} {x : Cl} (h : l[i]? = some x) : rd_T74 l (i : Int) = x := getD_at l z74 h

theorem specGoodTab_ev (l : List Cl) (each : Int) (hl : l.length ≤ 1048576) : Ev (fun k => spec_GoodTable.f k l each) (goodTab l each) := by
  unfold spec_GoodTable.f
  have e : goodTab l each = (l.all (cellOK l.length each) && (decide (1 ≤ (l.length : Int) ∧ (l.length : Int) ≤ 12) && decide (1 ≤ each ∧ each ≤ 12000))) := by
    unfold goodTab
    cases l.all (cellOK l.length each) <;> simp
  rw [e]
  have hw1 : wrap64 ((l.length : Int) - 1) = (l.length : Int) - 1 := wrap_id (by omega) (by omega)
  refine ev_list (σ := Unit) (fun k _ i => spec_GoodTable.l0 k l each l (l.length : Int) i) (fun xs _ => xs.all (cellOK l.length each) && (decide (1 ≤ (l.length : Int) ∧ (l.length : Int) ≤ 12) && decide (1 ≤ each ∧ each ≤ 12000))) l ?_ ?_ ()
  · intro s
    refine Ev.one fun k => ?_
    simp only [spec_GoodTable.l0]
    rw [if_neg (by omega)]
    simp only [l1In_eq, Option.bind_some, List.all_nil, Bool.true_and]
    by_cases c1 : 1 ≤ (l.length : Int) ∧ (l.length : Int) ≤ 12
    · rw [if_pos (decide_eq_true c1), decide_eq_true c1, Bool.true_and]
    · rw [if_neg (by rw [decide_eq_false c1]; decide), decide_eq_false c1, Bool.false_and]
  · intro i x xs s hd hi hx h
    have c1 : (i : Int) < (l.length : Int) := by omega
    have c2 : (0 : Int) ≤ (i : Int) := by omega
    have hw : wrap64 ((i : Int) + 1) = (i : Int) + 1 := wrap_id (by omega) (by omega)
    refine Ev.step (fun k => rfl) ?_
    simp only [spec_GoodTable.l0, if_pos c1, if_pos c2, rdC_at hx, hw, hw1, l1In_eq, Option.bind_some, List.all_cons, cellOK]
    by_cases a : 0 ≤ x.f0 ∧ x.f0 ≤ each
    · by_cases b : 0 ≤ x.f1 ∧ x.f1 ≤ (l.length : Int) - 1
      · simp only [a, b, and_self, decide_true, if_true, Bool.true_and, Bool.and_self]
        exact h ()
      · simp only [a, b, and_self, decide_true, decide_false, if_true, Bool.false_eq_true, if_false, Bool.true_and, Bool.false_and]
        exact Ev.now _
    · simp only [a, decide_false, Bool.false_eq_true, if_false, Bool.false_and]
      exact Ev.now _

theorem implTab_eq (l : List Cl) (each : Int) (hl : l.length ≤ 1048576) : impl_isTable.f l each = some (goodTab l each) := by
  unfold impl_isTable.f goodTab
  have hw1 : wrap64 ((l.length : Int) - 1) = (l.length : Int) - 1 := wrap_id (by omega) (by omega)
  simp only [within_eq, Option.bind_some]
  have hp : ∀ x ∈ l, impl_isTable_1.f l each x = some (!cellOK l.length each x) := fun x _ => by
    unfold impl_isTable_1.f cellOK
    simp only [within_eq, Option.bind_some, hw1]
    by_cases a : 0 ≤ x.f0 ∧ x.f0 ≤ each <;> simp [a]
  rw [anyO_total hp]
  have e : (l.any fun x => !cellOK l.length each x) = !l.all (cellOK l.length each) := by rw [List.all_eq_not_any_not, Bool.not_not]
  rw [e]
  by_cases c1 : 1 ≤ (l.length : Int) ∧ (l.length : Int) ≤ 12
  · by_cases c2 : 1 ≤ each ∧ each ≤ 12000
    · simp [c1, c2]
    · simp [c1, c2]
  · simp [c1]

theorem goodTab_iff {l : List Cl} {each : Int} (h : goodTab l each = true) : 1 ≤ l.length ∧ l.length ≤ 12 ∧ 1 ≤ each ∧ each ≤ 12000 ∧ ∀ x ∈ l, 0 ≤ x.f0 ∧ x.f0 ≤ each ∧ 0 ≤ x.f1 ∧ x.f1 ≤ (l.length : Int) - 1 := by
  unfold goodTab cellOK at h
  simp only [Bool.and_eq_true, decide_eq_true_eq, List.all_eq_true] at h
  refine ⟨by omega, by omega, h.2.1.1, h.2.1.2, fun x hx => ?_⟩
  have := h.2.2 x hx
  exact ⟨this.1.1, this.1.2, this.2.1, this.2.2⟩

/-- What the conversions of a table's cells come to. -/
def conC (l : List S76) : List Cl := l.map fun x => ⟨x.f0, x.f1⟩
theorem conC_length (l : List S76) : (conC l).length = l.length := by simp [conC]

theorem FnExactGoodTable : ∀ (l0 : List S76) (a1 : Int), (l0.length ≤ 9223372036854775807) → (∀ x_ ∈ l0, ((Lit.int .i64 x_.f0).wf = true ∧ (Lit.int .i64 x_.f1).wf = true)) → ((Lit.int .i64 a1).wf = true) → ∃ k, laws_FnExactGoodTable.f k l0 a1 = some true := by
  intro l each hl _ _
  refine Ev.rounds ?_
  unfold laws_FnExactGoodTable.f
  rw [szCellS_eq l hl]
  simp only [Option.bind_some]
  by_cases h1 : (l.length : Int) ≤ 1048576
  · have h2 : ¬ (1048576 - (l.length : Int) < 0) := by omega
    simp only [if_pos h1, if_neg h2]
    have hn : l.length ≤ 1048576 := by omega
    refine Ev.bind (toCellS_ev l hn) ?_
    refine Ev.bind (specGoodTab_ev _ each (by simp; omega)) ?_
    refine Ev.bind (toCellS_ev l hn) ?_
    simp only [impl_GoodTable.f]
    rw [implTab_eq _ each (by simp; omega)]
    simp only [Option.bind_some, bne_self_eq_false, Bool.false_eq_true, if_false]
    refine Ev.bind (toCellS_ev l hn) ?_
    refine Ev.bind (eqCellS_ev _ (by simp; omega)) ?_
    simp only [if_true]
    exact Ev.now _
  · simp only [if_neg h1]
    exact Ev.now _

/-! ### PickFrom -/
def pickA (l : List Cl) (each n : Int) : Int × Bool :=
  if goodTab l each = true ∧ 0 ≤ n ∧ n < (l.length : Int) * each then (if n.tmod each < (rd_T74 l (n.tdiv each)).f0 then n.tdiv each else (rd_T74 l (n.tdiv each)).f1, true) else (0, false)

theorem pick_bounds {m : Nat} {each n : Int} (h1 : 1 ≤ each) (h2 : each ≤ 12000) (hm : m ≤ 12) (h3 : 0 ≤ n) (h4 : n < (m : Int) * each) : 0 ≤ n.tdiv each ∧ n.tdiv each < (m : Int) := by
  rw [Int.tdiv_eq_ediv_of_nonneg h3]
  exact ⟨Int.ediv_nonneg h3 (by omega), Int.ediv_lt_of_lt_mul (by omega) h4⟩

theorem mul_bounds {m : Nat} {each : Int} (h1 : 1 ≤ each) (h2 : each ≤ 12000) (hm : m ≤ 12) : 0 ≤ (m : Int) * each ∧ (m : Int) * each ≤ 144000 := by
  refine ⟨Int.mul_nonneg (by omega) (by omega), ?_⟩
  calc (m : Int) * each ≤ 12 * each := Int.mul_le_mul_of_nonneg_right (by omega) (by omega)
    _ ≤ 12 * 12000 := Int.mul_le_mul_of_nonneg_left h2 (by omega)
    _ ≤ 144000 := by decide

theorem specPick_ev (l : List Cl) (each n : Int) (hl : l.length ≤ 1048576) : Ev (fun k => spec_PickFrom.f k l each n) (pickA l each n) := by
  unfold spec_PickFrom.f
  refine Ev.bind (specGoodTab_ev l each hl) ?_
  unfold pickA
  cases hg : goodTab l each with
  | false => simp only [Bool.false_eq_true, if_false, false_and]; exact Ev.now _
  | true =>
    obtain ⟨g1, g2, g3, g4, g5⟩ := goodTab_iff hg
    have mb := mul_bounds (m := l.length) g3 g4 g2
    have hw : wrap64 ((l.length : Int) * each) = (l.length : Int) * each := wrap_id (by omega) (by omega)
    simp only [if_true, true_and, hw]
    by_cases c1 : n < 0
    · have : ¬ (0 ≤ n ∧ n < (l.length : Int) * each) := by omega
      simp only [if_pos c1, if_neg this]
      exact Ev.now _
    · by_cases c2 : n ≥ (l.length : Int) * each
      · have : ¬ (0 ≤ n ∧ n < (l.length : Int) * each) := by omega
        simp only [if_neg c1, if_pos c2, if_neg this]
        exact Ev.now _
      · have c3 : 0 ≤ n ∧ n < (l.length : Int) * each := by omega
        obtain ⟨b1, b2⟩ := pick_bounds (m := l.length) g3 g4 g2 c3.1 c3.2
        have hw2 : wrap64 (n.tdiv each) = n.tdiv each := wrap_id (by omega) (by omega)
        have c4 : ¬ each = 0 := by omega
        simp only [if_neg c1, if_neg c2, if_pos c3, spec_l12Draw.f, if_neg c4, hw2, if_pos b1, if_pos b2]
        by_cases c5 : n.tmod each < (rd_T74 l (n.tdiv each)).f0
        · simp only [if_pos c5, Option.bind_some]; exact Ev.now _
        · simp only [if_neg c5, Option.bind_some]; exact Ev.now _

theorem implPick_ev (l : List Cl) (each n : Int) (hl : l.length ≤ 1048576) : Ev (fun k => impl_PickFrom.f k l each n) (pickA l each n) := by
  unfold impl_PickFrom.f
  rw [implTab_eq l each hl]
  simp only [Option.bind_some]
  unfold pickA
  cases hg : goodTab l each with
  | false =>
    simp only [Bool.false_eq_true, if_false, false_and]
    refine Ev.one fun k => ?_
    simp only [impl_PickFrom.j0, if_true]
  | true =>
    obtain ⟨g1, g2, g3, g4, g5⟩ := goodTab_iff hg
    have mb := mul_bounds (m := l.length) g3 g4 g2
    have hw : wrap64 ((l.length : Int) * each) = (l.length : Int) * each := wrap_id (by omega) (by omega)
    have hw1 : wrap64 ((l.length : Int) * each - 1) = (l.length : Int) * each - 1 := wrap_id (by omega) (by omega)
    simp only [if_true, true_and, hw, hw1, within_eq, Option.bind_some]
    by_cases c3 : 0 ≤ n ∧ n < (l.length : Int) * each
    · have c3' : 0 ≤ n ∧ n ≤ (l.length : Int) * each - 1 := by omega
      obtain ⟨b1, b2⟩ := pick_bounds (m := l.length) g3 g4 g2 c3.1 c3.2
      have hw2 : wrap64 (n.tdiv each) = n.tdiv each := wrap_id (by omega) (by omega)
      have c4 : ¬ each = 0 := by omega
      refine Ev.one fun k => ?_
      simp only [impl_PickFrom.j0, decide_eq_true c3', Bool.not_true, Bool.false_eq_true, if_false, if_neg c4, hw2, if_pos b1, if_pos b2, if_pos c3]
      by_cases c5 : n.tmod each < (rd_T74 l (n.tdiv each)).f0
      · simp only [if_pos c5]
      · simp only [if_neg c5]
    · have c3' : ¬ (0 ≤ n ∧ n ≤ (l.length : Int) * each - 1) := by omega
      refine Ev.one fun k => ?_
      simp only [impl_PickFrom.j0, decide_eq_false c3', Bool.not_false, if_true, if_neg c3]

theorem FnExactPickFrom : ∀ (l0 : List S76) (a1 : Int) (a2 : Int), (l0.length ≤ 9223372036854775807) → (∀ x_ ∈ l0, ((Lit.int .i64 x_.f0).wf = true ∧ (Lit.int .i64 x_.f1).wf = true)) → ((Lit.int .i64 a1).wf = true) → ((Lit.int .i64 a2).wf = true) → ∃ k, laws_FnExactPickFrom.f k l0 a1 a2 = some true := by
  intro l each n hl _ _ _
  refine Ev.rounds ?_
  unfold laws_FnExactPickFrom.f
  rw [szCellS_eq l hl]
  simp only [Option.bind_some]
  by_cases h1 : (l.length : Int) ≤ 1048576
  · have h2 : ¬ (1048576 - (l.length : Int) < 0) := by omega
    simp only [if_pos h1, if_neg h2]
    have hn : l.length ≤ 1048576 := by omega
    refine Ev.bind (toCellS_ev l hn) ?_
    refine Ev.bind (specPick_ev _ each n (by simp; omega)) ?_
    refine Ev.bind (toCellS_ev l hn) ?_
    refine Ev.bind (implPick_ev _ each n (by simp; omega)) ?_
    simp only [if_true, bne_self_eq_false]
    refine Ev.step (fun k => rfl) ?_
    simp only [laws_FnExactPickFrom.j0, Bool.false_eq_true, if_false]
    refine Ev.bind (toCellS_ev l hn) ?_
    refine Ev.bind (eqCellS_ev _ (by simp; omega)) ?_
    simp only [if_true]
    exact Ev.now _
  · simp only [if_neg h1]
    exact Ev.now _

/-! ### MassOf -/
def massG (each item : Int) : List Cl → Int
  | [] => 0
  | x :: xs => (if x.f1 = item then each - x.f0 else 0) + massG each item xs
def massA (l : List Cl) (each item : Int) : Int × Bool :=
  if goodTab l each = true ∧ 0 ≤ item ∧ item < (l.length : Int) then ((rd_T74 l item).f0 + massG each item l, true) else (0, false)

theorem implMass_loop (l : List Cl) (each item : Int) (hg : goodTab l each = true) (s : Int) (h0 : 0 ≤ s) (h1 : s ≤ 12000) :
    Ev (fun k => impl_MassOf.l0 k each item s l (l.length : Int) 0) (s + massG each item l, true) := by
  obtain ⟨g1, g2, g3, g4, g5⟩ := goodTab_iff hg
  refine ev_list_inv (fun k s i => impl_MassOf.l0 k each item s l (l.length : Int) i) (fun xs s => (s + massG each item xs, true)) (fun i s => 0 ≤ s ∧ s ≤ 12000 + 12000 * (i : Int)) l ?_ ?_ s ⟨h0, by omega⟩
  · intro s hs
    refine Ev.one fun k => ?_
    simp only [impl_MassOf.l0]
    rw [if_neg (by omega)]
    simp [massG]
  · intro i x xs s hs hd hi hx h
    have c1 : (i : Int) < (l.length : Int) := by omega
    have c2 : (0 : Int) ≤ (i : Int) := by omega
    have hw : wrap64 ((i : Int) + 1) = (i : Int) + 1 := wrap_id (by omega) (by omega)
    have hxm := g5 x (List.mem_of_getElem? hx)
    refine Ev.step (fun k => rfl) ?_
    simp only [impl_MassOf.l0, if_pos c1, if_pos c2, rdC_at hx, hw, massG]
    by_cases c3 : x.f1 = item
    · have hw2 : wrap64 (each - x.f0) = each - x.f0 := wrap_id (by omega) (by omega)
      have hw3 : wrap64 (s + (each - x.f0)) = s + (each - x.f0) := wrap_id (by omega) (by omega)
      simp only [if_pos c3, hw2, hw3]
      exact (h (s + (each - x.f0)) ⟨by omega, by omega⟩).cast (by rw [Int.add_assoc])
    · simp only [if_neg c3]
      exact (h s ⟨by omega, by omega⟩).cast (by rw [Int.zero_add])

theorem implMass_ev (l : List Cl) (each item : Int) (hl : l.length ≤ 1048576) : Ev (fun k => impl_MassOf.f k l each item) (massA l each item) := by
  unfold impl_MassOf.f
  rw [implTab_eq l each hl]
  simp only [Option.bind_some]
  unfold massA
  have hw1 : wrap64 ((l.length : Int) - 1) = (l.length : Int) - 1 := wrap_id (by omega) (by omega)
  cases hg : goodTab l each with
  | false =>
    simp only [Bool.false_eq_true, if_false, false_and]
    refine Ev.one fun k => ?_
    simp only [impl_MassOf.j0, if_true]
  | true =>
    obtain ⟨g1, g2, g3, g4, g5⟩ := goodTab_iff hg
    simp only [if_true, true_and, hw1, within_eq, Option.bind_some]
    by_cases c3 : 0 ≤ item ∧ item < (l.length : Int)
    · have c3' : 0 ≤ item ∧ item ≤ (l.length : Int) - 1 := by omega
      refine Ev.step (fun k => rfl) ?_
      simp only [impl_MassOf.j0, decide_eq_true c3', Bool.not_true, Bool.false_eq_true, if_false, if_pos c3.1, if_pos c3.2, if_pos c3]
      obtain ⟨m, rfl⟩ := Int.eq_ofNat_of_zero_le c3.1
      have hm : m < l.length := by omega
      have hxm := g5 l[m] (List.getElem_mem hm)
      have e := rdC_at (List.getElem?_eq_getElem hm)
      exact implMass_loop l each _ hg _ (by rw [e]; omega) (by rw [e]; omega)
    · have c3' : ¬ (0 ≤ item ∧ item ≤ (l.length : Int) - 1) := by omega
      refine Ev.one fun k => ?_
      simp only [impl_MassOf.j0, decide_eq_false c3', Bool.not_false, if_true, if_neg c3]

def massS (each item : Int) : Int → List Cl → Int
  | _, [] => 0
  | i, x :: xs => (if i = item then x.f0 else 0) + (if x.f1 = item then each - x.f0 else 0) + massS each item (i + 1) xs

theorem massS_eq (each item : Int) : ∀ (xs : List Cl) (i : Int), massS each item i xs = (if i ≤ item ∧ item < i + (xs.length : Int) then (xs.getD (item - i).toNat z74).f0 else 0) + massG each item xs
  | [], i => by
    have h : ¬ (i ≤ item ∧ item < i + (([] : List Cl).length : Int)) := by simp only [List.length_nil]; omega
    rw [if_neg h]
    rfl
  | x :: xs, i => by
    unfold massS massG
    rw [massS_eq each item xs (i + 1)]
    have hl : ((x :: xs).length : Int) = (xs.length : Int) + 1 := by simp only [List.length_cons]; omega
    rw [hl]
    by_cases c1 : i = item
    · subst c1
      have e1 : ¬ (i + 1 ≤ i ∧ i < i + 1 + (xs.length : Int)) := by omega
      have e2 : i ≤ i ∧ i < i + ((xs.length : Int) + 1) := by omega
      rw [if_pos rfl, if_neg e1, if_pos e2, Int.sub_self]
      simp only [Int.toNat_zero, List.getD_cons_zero]
      omega
    · rw [if_neg c1]
      by_cases c2 : i + 1 ≤ item ∧ item < i + 1 + (xs.length : Int)
      · have e2 : i ≤ item ∧ item < i + ((xs.length : Int) + 1) := by omega
        have : (item - i).toNat = (item - (i + 1)).toNat + 1 := by omega
        rw [if_pos c2, if_pos e2, this, List.getD_cons_succ]
        omega
      · have e2 : ¬ (i ≤ item ∧ item < i + ((xs.length : Int) + 1)) := by omega
        rw [if_neg c2, if_neg e2]
        omega

theorem specMass_loop (l : List Cl) (each item : Int) (hg : goodTab l each = true) :
    Ev (fun k => spec_MassOf.l0 k each item 0 l (l.length : Int) 0) (massS each item 0 l, true) := by
  obtain ⟨g1, g2, g3, g4, g5⟩ := goodTab_iff hg
  have key : Ev (fun k => spec_MassOf.l0 k each item 0 l (l.length : Int) 0) (0 + massS each item ((l.length : Int) - (l.length : Int)) l, true) := by
    refine ev_list_inv (fun k s i => spec_MassOf.l0 k each item s l (l.length : Int) i) (fun xs s => (s + massS each item ((l.length : Int) - (xs.length : Int)) xs, true)) (fun i s => 0 ≤ s ∧ s ≤ 24000 * (i : Int)) l ?_ ?_ 0 ⟨by omega, by omega⟩
    · intro s hs
      refine Ev.one fun k => ?_
      simp only [spec_MassOf.l0]
      rw [if_neg (by omega)]
      simp [massS]
    · intro i x xs s hs hd hi hx h
      have c1 : (i : Int) < (l.length : Int) := by omega
      have c2 : (0 : Int) ≤ (i : Int) := by omega
      have hw : wrap64 ((i : Int) + 1) = (i : Int) + 1 := wrap_id (by omega) (by omega)
      have hxm := g5 x (List.mem_of_getElem? hx)
      have hlen : xs.length + 1 = l.length - i := by have := congrArg List.length hd; simpa using this.symm
      have hi' : (l.length : Int) - ((x :: xs).length : Int) = (i : Int) := by simp; omega
      have hi2 : (l.length : Int) - (xs.length : Int) = (i : Int) + 1 := by omega
      have hw2 : wrap64 (each - x.f0) = each - x.f0 := wrap_id (by omega) (by omega)
      refine Ev.step (fun k => rfl) ?_
      rw [hi']
      simp only [spec_MassOf.l0, if_pos c1, if_pos c2, rdC_at hx, hw, massS, hw2]
      rw [hi2] at h
      by_cases c3 : (i : Int) = item <;> by_cases c4 : x.f1 = item
      · have hw3 : wrap64 (s + x.f0) = s + x.f0 := wrap_id (by omega) (by omega)
        have hw4 : wrap64 (s + x.f0 + (each - x.f0)) = s + x.f0 + (each - x.f0) := wrap_id (by omega) (by omega)
        simp only [if_pos c3, if_pos c4, hw3, hw4]
        exact (h _ ⟨by omega, by omega⟩).cast (by congr 1; omega)
      · have hw3 : wrap64 (s + x.f0) = s + x.f0 := wrap_id (by omega) (by omega)
        simp only [if_pos c3, if_neg c4, hw3]
        exact (h _ ⟨by omega, by omega⟩).cast (by congr 1; omega)
      · have hw3 : wrap64 (s + (each - x.f0)) = s + (each - x.f0) := wrap_id (by omega) (by omega)
        simp only [if_neg c3, if_pos c4, hw3]
        exact (h _ ⟨by omega, by omega⟩).cast (by congr 1; omega)
      · simp only [if_neg c3, if_neg c4]
        exact (h _ ⟨by omega, by omega⟩).cast (by congr 1; omega)
  exact key.cast (by rw [Int.sub_self, Int.zero_add])

theorem specMass_ev (l : List Cl) (each item : Int) (hl : l.length ≤ 1048576) : Ev (fun k => spec_MassOf.f k l each item) (massA l each item) := by
  unfold spec_MassOf.f
  refine Ev.bind (specGoodTab_ev l each hl) ?_
  unfold massA
  cases hg : goodTab l each with
  | false =>
    simp only [Bool.false_eq_true, if_false, false_and]
    refine Ev.one fun k => ?_
    simp only [spec_MassOf.j0, if_true]
  | true =>
    simp only [if_true, true_and]
    by_cases c1 : item < 0
    · have : ¬ (0 ≤ item ∧ item < (l.length : Int)) := by omega
      simp only [if_pos c1, if_neg this]
      refine Ev.one fun k => ?_
      simp only [spec_MassOf.j0, if_true]
    · simp only [if_neg c1]
      by_cases c2 : item ≥ (l.length : Int)
      · have : ¬ (0 ≤ item ∧ item < (l.length : Int)) := by omega
        simp only [decide_eq_true c2, if_neg this]
        refine Ev.one fun k => ?_
        simp only [spec_MassOf.j0, if_true]
      · have c3 : 0 ≤ item ∧ item < (l.length : Int) := by omega
        simp only [decide_eq_false c2, if_pos c3]
        refine Ev.step (fun k => rfl) ?_
        simp only [spec_MassOf.j0, Bool.false_eq_true, if_false]
        refine (specMass_loop l each item hg).cast ?_
        rw [massS_eq, if_pos (by omega), Int.sub_zero]
        rfl

theorem FnExactMassOf : ∀ (l0 : List S76) (a1 : Int) (a2 : Int), (l0.length ≤ 9223372036854775807) → (∀ x_ ∈ l0, ((Lit.int .i64 x_.f0).wf = true ∧ (Lit.int .i64 x_.f1).wf = true)) → ((Lit.int .i64 a1).wf = true) → ((Lit.int .i64 a2).wf = true) → ∃ k, laws_FnExactMassOf.f k l0 a1 a2 = some true := by
  intro l each n hl _ _ _
  refine Ev.rounds ?_
  unfold laws_FnExactMassOf.f
  rw [szCellS_eq l hl]
  simp only [Option.bind_some]
  by_cases h1 : (l.length : Int) ≤ 1048576
  · have h2 : ¬ (1048576 - (l.length : Int) < 0) := by omega
    simp only [if_pos h1, if_neg h2]
    have hn : l.length ≤ 1048576 := by omega
    refine Ev.bind (toCellS_ev l hn) ?_
    refine Ev.bind (specMass_ev _ each n (by simp; omega)) ?_
    refine Ev.bind (toCellS_ev l hn) ?_
    refine Ev.bind (implMass_ev _ each n (by simp; omega)) ?_
    simp only [if_true, bne_self_eq_false]
    refine Ev.step (fun k => rfl) ?_
    simp only [laws_FnExactMassOf.j0, Bool.false_eq_true, if_false]
    refine Ev.bind (toCellS_ev l hn) ?_
    refine Ev.bind (eqCellS_ev _ (by simp; omega)) ?_
    simp only [if_true]
    exact Ev.now _
  · simp only [if_neg h1]
    exact Ev.now _

end Go.Proofs.Ytipogfkoefllbaa.Pure
