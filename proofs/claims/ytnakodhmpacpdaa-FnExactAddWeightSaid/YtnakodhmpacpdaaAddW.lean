/-
AddWeight: the own weights that subtree weights came from, in plain Lean, and that the two sides of the law are one.
Conditions: none beyond each lemma's own premises.
-/
import Derived.Test.YtnakodhmpacpdaaGhS
import Derived.Test.YtnakodhmpacpdaaQ0
import Derived.Test.YtnakodhmpacpdaaQ10
import Derived.Test.YtnakodhmpacpdaaQ26
import Derived.Test.YtnakodhmpacpdaaQ27
namespace Go.Proofs.Ytnakodhmpacpdaa.Pure
open Go.RowKit Go.Proofs.Ytnakodhmpacpdaa.Q Go.Proofs.Ytnakodhmpacpdaa.Gen Go.Proofs.YtnakodhmpacpdaaW.PrintWords Go.Proofs.YtnakodhmpacpdaaW.PrintLast
set_option linter.unusedVariables false
set_option linter.unusedSimpArgs false

theorem rd_get (x : List Int) (i : Nat) : rd x (i : Int) = (x[i]?).getD 0 := by
  show x.getD ((i : Int)).toNat 0 = _
  rw [Int.toNat_natCast, List.getD_eq_getElem?_getD]
theorem rd_set (x : List Int) (p : Nat) (v : Int) (j : Nat) : rd (x.set p v) (j : Int) = if p = j ∧ p < x.length then v else rd x (j : Int) := by
  rw [rd_get, rd_get, List.getElem?_set]
  by_cases h : p = j
  · subst h
    by_cases h2 : p < x.length
    · simp [h2]
    · simp [h2, List.getElem?_eq_none (Nat.le_of_not_lt h2)]
  · simp [h]
theorem rd_mem {P : Int → Prop} {x : List Int} (h : ∀ y ∈ x, P y) (h0 : P 0) (j : Nat) : P (rd x (j : Int)) := by
  rw [rd_get]
  cases e : x[j]? with
  | none => exact h0
  | some y => exact h y (List.mem_of_getElem? e)
theorem set_rd (x : List Int) (p : Nat) : x.set p (rd x (p : Int)) = x := by
  apply List.ext_getElem?
  intro j
  rw [List.getElem?_set]
  by_cases h : p = j
  · subst h
    rw [rd_get]
    by_cases h2 : p < x.length
    · simp [h2]
    · simp [h2, List.getElem?_eq_none (Nat.le_of_not_lt h2)]
  · simp [h]
theorem wrap_bounds (x : Int) : -9223372036854775808 ≤ wrap64 x ∧ wrap64 x ≤ 9223372036854775807 := by
  unfold wrap64
  omega
theorem wrap_undo {a b : Int} (h0 : -9223372036854775808 ≤ a) (h1 : a ≤ 9223372036854775807) : wrap64 (wrap64 (a - b) + b) = a := by
  unfold wrap64
  omega

/-- The blocks 1 .. m, each taken away from its parent's. -/
def bkL (t : List B) (s : List Int) : Nat → List Int
  | 0 => s
  | m + 1 => (bkL t s m).set (par t ((m + 1 : Nat) : Int)).toNat (wrap64 (rd (bkL t s m) (par t ((m + 1 : Nat) : Int)) - rd s ((m + 1 : Nat) : Int)))
def bk (t : List B) (s : List Int) : List Int := bkL t s (t.length - 1)
theorem bkL_length (t : List B) (s : List Int) : ∀ m, (bkL t s m).length = s.length
  | 0 => rfl
  | m + 1 => by unfold bkL; rw [List.length_set, bkL_length t s m]
theorem bkL_hi {t : List B} (hg : GT t) (s : List Int) : ∀ (m j : Nat), m ≤ j → m < t.length → rd (bkL t s m) (j : Int) = rd s (j : Int)
  | 0, j, _, _ => rfl
  | m + 1, j, h, hm => by
    have a := hg.par0 ((m + 1 : Nat) : Int) (by omega) (by omega)
    have b := hg.par1 ((m + 1 : Nat) : Int) (by omega) (by omega)
    unfold bkL
    rw [rd_set, if_neg (by omega)]
    exact bkL_hi hg s m j (by omega) (by omega)
theorem bkL_wf (t : List B) (s : List Int) (hs : ∀ x ∈ s, -9223372036854775808 ≤ x ∧ x ≤ 9223372036854775807) : ∀ m, ∀ x ∈ bkL t s m, -9223372036854775808 ≤ x ∧ x ≤ 9223372036854775807
  | 0 => hs
  | m + 1 => by
    intro x hx
    unfold bkL at hx
    rcases List.mem_or_eq_of_mem_set hx with h | h
    · exact bkL_wf t s hs m x h
    · rw [h]; exact wrap_bounds _
theorem subL_bkL {t : List B} (hg : GT t) (s : List Int) (hl : s.length = t.length) (hs : ∀ x ∈ s, -9223372036854775808 ≤ x ∧ x ≤ 9223372036854775807) : ∀ m, m < t.length → subL t m (bkL t s m) = s
  | 0, _ => rfl
  | m + 1, hm => by
    have a := hg.par0 ((m + 1 : Nat) : Int) (by omega) (by omega)
    have b := hg.par1 ((m + 1 : Nat) : Int) (by omega) (by omega)
    have ih := subL_bkL hg s hl hs m (by omega)
    have hi := bkL_hi hg s m (m + 1) (by omega) (by omega)
    have wf := rd_mem (bkL_wf t s hs m) (by omega) (par t ((m + 1 : Nat) : Int)).toNat
    have ep : (((par t ((m + 1 : Nat) : Int)).toNat : Nat) : Int) = par t ((m + 1 : Nat) : Int) := by omega
    have c1 : rd (bkL t s (m + 1)) (par t ((m + 1 : Nat) : Int)) = wrap64 (rd (bkL t s m) (par t ((m + 1 : Nat) : Int)) - rd s ((m + 1 : Nat) : Int)) := by
      have := rd_set (bkL t s m) (par t ((m + 1 : Nat) : Int)).toNat (wrap64 (rd (bkL t s m) (par t ((m + 1 : Nat) : Int)) - rd s ((m + 1 : Nat) : Int))) (par t ((m + 1 : Nat) : Int)).toNat
      rw [ep, if_pos ⟨rfl, by rw [bkL_length]; omega⟩] at this
      exact this
    have c2 := bkL_hi hg s (m + 1) (m + 1) (by omega) hm
    show subL t m ((bkL t s (m + 1)).set (par t ((m + 1 : Nat) : Int)).toNat (wrap64 (rd (bkL t s (m + 1)) (par t ((m + 1 : Nat) : Int)) + rd (bkL t s (m + 1)) ((m + 1 : Nat) : Int)))) = s
    rw [c1, c2]
    rw [ep] at wf
    rw [wrap_undo wf.1 wf.2]
    show subL t m (((bkL t s m).set (par t ((m + 1 : Nat) : Int)).toNat _).set (par t ((m + 1 : Nat) : Int)).toNat _) = s
    rw [List.set_set]
    have := set_rd (bkL t s m) (par t ((m + 1 : Nat) : Int)).toNat
    rw [ep] at this
    rw [this]
    exact ih
theorem subW_bk {t : List B} (hg : GT t) (s : List Int) (hl : s.length = t.length) (hs : ∀ x ∈ s, -9223372036854775808 ≤ x ∧ x ≤ 9223372036854775807) : subW t (bk t s) = s :=
  subL_bkL hg s hl hs _ (by have := hg.lo; omega)

/-! ### how great a subtree's weight can be -/
theorem sum_set : ∀ (l : List Int) (p : Nat) (v : Int), p < l.length → (l.set p v).sum = l.sum - rd l (p : Int) + v
  | [], p, v, h => by simp at h
  | a :: l, 0, v, h => by rw [rd_get]; simp; omega
  | a :: l, p + 1, v, h => by
    have := sum_set l p v (by simpa using h)
    rw [rd_get] at this ⊢
    simp only [List.set_cons_succ, List.sum_cons, List.getElem?_cons_succ]
    omega
theorem sum_nonneg : ∀ (l : List Int), (∀ x ∈ l, 0 ≤ x) → 0 ≤ l.sum
  | [], _ => by simp
  | a :: l, h => by
    have := sum_nonneg l fun x hx => h x (List.mem_cons_of_mem _ hx)
    have := h a List.mem_cons_self
    rw [List.sum_cons]; omega
theorem rd_le_sum : ∀ (l : List Int), (∀ x ∈ l, 0 ≤ x) → ∀ p : Nat, rd l (p : Int) ≤ l.sum
  | [], _, p => by rw [rd_get]; simp
  | a :: l, h, 0 => by
    have := sum_nonneg l fun x hx => h x (List.mem_cons_of_mem _ hx)
    rw [rd_get, List.sum_cons]; simp; omega
  | a :: l, h, p + 1 => by
    have := rd_le_sum l (fun x hx => h x (List.mem_cons_of_mem _ hx)) p
    have := h a List.mem_cons_self
    rw [rd_get] at *
    simp only [List.sum_cons, List.getElem?_cons_succ]; omega
theorem sum_take_succ (x : List Int) (m : Nat) (h : m < x.length) : (x.take (m + 1)).sum = (x.take m).sum + rd x (m : Int) := by
  rw [List.take_succ_eq_append_getElem h, List.sum_append, rd_get, List.getElem?_eq_getElem h]
  simp
theorem sum_le : ∀ (l : List Int) (c : Int), (∀ x ∈ l, x ≤ c) → l.sum ≤ (l.length : Int) * c
  | [], c, _ => by simp
  | a :: l, c, h => by
    have := sum_le l c fun x hx => h x (List.mem_cons_of_mem _ hx)
    have := h a List.mem_cons_self
    rw [List.sum_cons, List.length_cons, show ((l.length + 1 : Nat) : Int) = (l.length : Int) + 1 by omega, Int.add_mul]
    omega
theorem subL_bound {t : List B} (hg : GT t) (T : Int) (hT : T ≤ 1000000000) : ∀ (m : Nat) (x : List Int), m < t.length → x.length = t.length → (∀ y ∈ x, 0 ≤ y ∧ y ≤ T) → (x.take (m + 1)).sum ≤ T → 0 ≤ T → ∀ y ∈ subL t m x, 0 ≤ y ∧ y ≤ T
  | 0, x, _, _, h, _, _ => h
  | m + 1, x, hm, hx, h, hs, h0 => by
    have a := hg.par0 ((m + 1 : Nat) : Int) (by omega) (by omega)
    have b := hg.par1 ((m + 1 : Nat) : Int) (by omega) (by omega)
    have ep : (((par t ((m + 1 : Nat) : Int)).toNat : Nat) : Int) = par t ((m + 1 : Nat) : Int) := by omega
    have s1 := sum_take_succ x (m + 1) (by omega)
    have nn : ∀ y ∈ x.take (m + 1), 0 ≤ y := fun y hy => (h y (List.mem_of_mem_take hy)).1
    have q := rd_le_sum (x.take (m + 1)) nn (par t ((m + 1 : Nat) : Int)).toNat
    have e1 : rd (x.take (m + 1)) (((par t ((m + 1 : Nat) : Int)).toNat : Nat) : Int) = rd x (((par t ((m + 1 : Nat) : Int)).toNat : Nat) : Int) := by
      rw [rd_get, rd_get, List.getElem?_take_of_lt (by omega)]
    have u1 := rd_mem h ⟨by omega, h0⟩ (par t ((m + 1 : Nat) : Int)).toNat
    have u2 := rd_mem h ⟨by omega, h0⟩ (m + 1)
    rw [e1] at q
    rw [ep] at q u1 e1
    unfold subL
    rw [wrap_id (by omega) (by omega)]
    refine subL_bound hg T hT m _ (by omega) (by rw [List.length_set]; exact hx) ?_ ?_ h0
    · intro y hy
      rcases List.mem_or_eq_of_mem_set hy with h2 | h2
      · exact h y h2
      · rw [h2]; omega
    · rw [List.take_set, sum_set _ _ _ (by rw [List.length_take]; omega), ep, e1]
      omega
theorem subW_bound {t : List B} {x : List Int} (o : Own t x) : ∀ y ∈ subW t x, 0 ≤ y ∧ y ≤ 2400000 := by
  have hi := o.good.hi
  have lo := o.good.lo
  have hl := o.len
  refine subL_bound o.good 2400000 (by omega) _ x (by omega) o.len (fun y hy => ?_) ?_ (by omega)
  · have := o.all y hy
    omega
  · rw [show t.length - 1 + 1 = x.length by omega, List.take_length]
    have := sum_le x 100000 fun y hy => (o.all y hy).2
    omega
theorem bk_length (t : List B) (s : List Int) : (bk t s).length = s.length := bkL_length _ _ _

/-! ### the two sides -/
/-- The own weights after n more for b. -/
noncomputable def addW (t : List B) (l : List Int) (b n : Int) : List Int × Bool :=
  if goodT t = true ∧ l.length = t.length ∧ ownT t (bk t l) = true ∧ (0 ≤ b ∧ b < (t.length : Int)) ∧ (0 ≤ rd (bk t l) b + n ∧ rd (bk t l) b + n ≤ 100000) then (subW t ((bk t l).set b.toNat (rd (bk t l) b + n)), true) else ([], false)
theorem addW_length (t : List B) (l : List Int) (b n : Int) (hl : l.length ≤ 1048576) : (addW t l b n).1.length ≤ 1048576 := by
  unfold addW
  split
  · simp only [subW_length, List.length_set, bk_length]; exact hl
  · simp

theorem specBack_loop {t : List B} (hg : GT t) (s : List Int) (hl : s.length = t.length) : ∀ (n i : Nat), t.length - i = n → 1 ≤ i → i ≤ t.length →
    Ev (fun k => spec_l7Back.l0 k t s (bkL t s (i - 1)) (i : Int)) (bk t s) := by
  have hi24 := hg.hi
  intro n
  induction n with
  | zero =>
    intro i h1 h2 h3
    obtain rfl : i = t.length := by omega
    refine Ev.one fun k => ?_
    simp only [spec_l7Back.l0]
    rw [if_neg (by omega)]
    rfl
  | succ n ih =>
    intro i h1 h2 h3
    obtain ⟨m, rfl⟩ : ∃ m, i = m + 1 := ⟨i - 1, by omega⟩
    have a := hg.par0 ((m + 1 : Nat) : Int) (by omega) (by omega)
    have b := hg.par1 ((m + 1 : Nat) : Int) (by omega) (by omega)
    have bl := bkL_length t s m
    have c1 : ((m + 1 : Nat) : Int) < (t.length : Int) := by omega
    have c2 : (0 : Int) ≤ ((m + 1 : Nat) : Int) := by omega
    have c4 : (0 : Int) ≤ (rd_T55 t ((m + 1 : Nat) : Int)).f0 := a
    have c5 : (rd_T55 t ((m + 1 : Nat) : Int)).f0 < ((bkL t s (m + 1 - 1)).length : Int) := by unfold par at b; rw [show m + 1 - 1 = m from rfl]; omega
    have c6 : ((m + 1 : Nat) : Int) < (s.length : Int) := by omega
    have hw : wrap64 (((m + 1 : Nat) : Int) + 1) = ((m + 1 + 1 : Nat) : Int) := by rw [wrap_id (by omega) (by omega)]; omega
    refine Ev.step (fun k => rfl) ?_
    simp only [spec_l7Back.l0, if_pos c1, if_pos c2, if_pos c4, if_pos c5, if_pos c6, hw]
    exact ih (m + 1 + 1) (by omega) (by omega) (by omega)
theorem specBack_ev {t : List B} (hg : GT t) (s : List Int) (hl : s.length = t.length) : Ev (fun k => spec_l7Back.f k t s) (bk t s) := by
  have hi := hg.hi
  have c : ([] : List Int).length + s.length < 17592186044416 := by simp; omega
  unfold spec_l7Back.f
  simp only [Option.bind_some, if_pos c, List.nil_append]
  exact specBack_loop hg s hl (t.length - 1) 1 rfl (by omega) hg.lo

theorem own_wf {t : List B} {x : List Int} (o : Own t x) (j : Nat) : 0 ≤ rd x (j : Int) ∧ rd x (j : Int) ≤ 100000 := rd_mem o.all (by omega) j

theorem own_set {t : List B} {x : List Int} (o : Own t x) (j : Nat) (hj : j < t.length) (v : Int) : ownT t (x.set j v) = true ↔ 0 ≤ v ∧ v ≤ 100000 := by
  constructor
  · intro h
    have hl := o.len
    refine (ownT_iff.1 h).all v (List.mem_iff_getElem.2 ⟨j, by rw [List.length_set]; omega, ?_⟩)
    exact List.getElem_set_self _
  · intro h
    refine ownT_iff.2 ⟨o.good, by rw [List.length_set]; exact o.len, fun y hy => ?_⟩
    rcases List.mem_or_eq_of_mem_set hy with h2 | h2
    · exact o.all y h2
    · rw [h2]; exact h

theorem addW_no {t : List B} {l : List Int} {b n : Int} (h : ¬ (goodT t = true ∧ l.length = t.length ∧ ownT t (bk t l) = true ∧ (0 ≤ b ∧ b < (t.length : Int)) ∧ (0 ≤ rd (bk t l) b + n ∧ rd (bk t l) b + n ≤ 100000))) : addW t l b n = ([], false) := if_neg h

theorem specAdd_ev (t : List B) (l : List Int) (b n : Int) (ht : t.length ≤ 1048576) (hl : l.length ≤ 1048576) (wf : ∀ x ∈ l, -9223372036854775808 ≤ x ∧ x ≤ 9223372036854775807) : Ev (fun k => spec_AddWeight.f k t l b n) (addW t l b n) := by
  have fls : ¬ (goodT t = true ∧ l.length = t.length ∧ ownT t (bk t l) = true ∧ (0 ≤ b ∧ b < (t.length : Int)) ∧ (0 ≤ rd (bk t l) b + n ∧ rd (bk t l) b + n ≤ 100000)) → Ev (fun k => spec_AddWeight.j0 k t l b n true) (addW t l b n) := fun h => by
    rw [addW_no h]
    exact Ev.one fun k => by simp only [spec_AddWeight.j0, if_true]
  unfold spec_AddWeight.f
  refine Ev.bind (specGoodTree_ev t (by omega)) ?_
  cases hg : goodT t with
  | false =>
    simp only [Bool.false_eq_true, if_false]
    exact fls fun h => by rw [hg] at h; exact Bool.noConfusion h.1
  | true =>
    have g := goodT_true.1 hg
    have g24 := g.hi
    simp only [if_true]
    by_cases hll : (l.length : Int) = (t.length : Int)
    · have hl2 : l.length = t.length := by omega
      have own : ownT t (bk t l) = true → Own t (bk t l) := ownT_iff.1
      simp only [if_pos hll]
      refine Ev.bind (l1All_ev l 0 2400000 (by omega)) ?_
      cases hall : (l.all fun n => decide (0 ≤ n ∧ n ≤ 2400000)) with
      | false =>
        simp only [Bool.false_eq_true, if_false]
        refine fls fun h => ?_
        have o := own h.2.2.1
        have bd := subW_bound o
        rw [subW_bk g l hl2 wf] at bd
        have : (l.all fun n => decide (0 ≤ n ∧ n ≤ 2400000)) = true := List.all_eq_true.2 fun x hx => decide_eq_true (bd x hx)
        rw [hall] at this
        exact Bool.noConfusion this
      | true =>
        simp only [if_true]
        by_cases b1 : b < 0
        · simp only [if_pos b1]
          exact fls fun h => by omega
        by_cases b2 : b ≥ (t.length : Int)
        · simp only [if_neg b1, if_pos b2]
          exact fls fun h => by omega
        have eb : ((b.toNat : Nat) : Int) = b := by omega
        simp only [if_neg b1, if_neg b2, l1In_eq, Option.bind_some]
        by_cases c : -100000 ≤ n ∧ n ≤ 100000
        · simp only [decide_eq_true c, Bool.not_true]
          refine Ev.step (fun k => rfl) ?_
          simp only [spec_AddWeight.j0, Bool.false_eq_true, if_false]
          refine Ev.bind (specBack_ev g l hl2) ?_
          refine Ev.bind (specOwn_ev t _ ht (by rw [bk_length]; exact hl)) ?_
          cases ho : ownT t (bk t l) with
          | false =>
            rw [addW_no fun h => by rw [ho] at h; exact Bool.noConfusion h.2.2.1]
            simp only [Bool.false_eq_true, if_false]
            exact Ev.now _
          | true =>
            have o := own ho
            have ob := own_wf o b.toNat
            rw [eb] at ob
            have z1 : 0 ≤ b := by omega
            have z2 : b < ((bk t l).length : Int) := by rw [bk_length]; omega
            simp only [if_true, if_pos z1, if_pos z2]
            rw [wrap_id (by omega) (by omega)]
            refine Ev.bind (specSubWeights_ev t _ ht (by rw [List.length_set, bk_length]; exact hl)) ?_
            refine (Ev.now _).cast ?_
            unfold subWeightsA
            by_cases c3 : 0 ≤ rd (bk t l) b + n ∧ rd (bk t l) b + n ≤ 100000
            · rw [if_pos ((own_set o _ (by omega) _).2 c3)]
              exact (if_pos ⟨hg, hl2, ho, by omega, c3⟩).symm
            · rw [if_neg fun h => c3 ((own_set o _ (by omega) _).1 h)]
              exact (addW_no fun h => c3 h.2.2.2.2).symm
        · simp only [decide_eq_false c, Bool.not_false]
          refine fls fun h => ?_
          have ob := own_wf (own h.2.2.1) b.toNat
          rw [eb] at ob
          omega
    · simp only [if_neg hll]
      exact fls fun h => by omega

theorem eqSlice_loop (a b : List Int) (hab : a.length = b.length) (ha : a.length ≤ 1048576) : ∀ (n i : Nat), a.length - i = n → i ≤ a.length → Ev (fun k => slices_Equal_int_int.l0 k a b (a.length : Int) (i : Int)) (decide (a.drop i = b.drop i)) := by
  intro n
  induction n with
  | zero =>
    intro i h1 h2
    obtain rfl : i = a.length := by omega
    refine Ev.one fun k => ?_
    simp only [slices_Equal_int_int.l0]
    rw [if_neg (by omega), List.drop_length, hab, List.drop_length]
    rfl
  | succ n ih =>
    intro i h1 h2
    have ha' : i < a.length := by omega
    have hb' : i < b.length := by omega
    have c1 : (i : Int) < (a.length : Int) := by omega
    have c2 : (0 : Int) ≤ (i : Int) := by omega
    have c3 : (i : Int) < (b.length : Int) := by omega
    have hw : wrap64 ((i : Int) + 1) = ((i + 1 : Nat) : Int) := by rw [wrap_id (by omega) (by omega)]; omega
    have ra : rd a (i : Int) = a[i] := rd_at (List.getElem?_eq_getElem ha')
    have rb : rd b (i : Int) = b[i] := rd_at (List.getElem?_eq_getElem hb')
    have da : a.drop i = a[i] :: a.drop (i + 1) := List.drop_eq_getElem_cons ha'
    have db : b.drop i = b[i] :: b.drop (i + 1) := List.drop_eq_getElem_cons hb'
    refine Ev.step (fun k => rfl) ?_
    simp only [slices_Equal_int_int.l0, if_pos c1, if_pos c2, if_pos c3, ra, rb, hw]
    have key : (a.drop i = b.drop i) ↔ (a[i] = b[i] ∧ a.drop (i + 1) = b.drop (i + 1)) := by
      constructor
      · intro h; rw [da, db] at h; exact List.cons.inj h
      · intro h; rw [da, db, h.1, h.2]
    by_cases e : a[i] = b[i]
    · simp only [if_pos e]
      exact (ih (i + 1) (by omega) (by omega)).cast (decide_eq_decide.2 ⟨fun h => key.2 ⟨e, h⟩, fun h => (key.1 h).2⟩)
    · simp only [if_neg e]
      exact (Ev.now false).cast (decide_eq_false fun h => e (key.1 h).1).symm
theorem eqSlice_ev (a b : List Int) (ha : a.length ≤ 1048576) : Ev (fun k => slices_Equal_int_int.f k a b) (decide (a = b)) := by
  unfold slices_Equal_int_int.f
  by_cases h : a.length = b.length
  · have h2 : (a.length : Int) = (b.length : Int) := by omega
    simp only [if_pos h2]
    exact eqSlice_loop a b h ha a.length 0 (by omega) (by omega)
  · have h2 : ¬ (a.length : Int) = (b.length : Int) := by omega
    simp only [if_neg h2]
    exact (Ev.now false).cast (decide_eq_false fun e => h (by rw [e])).symm

/-- What the program's look for own weights comes to. -/
noncomputable def ownOfA (t : List B) (l : List Int) : List Int × Bool := if goodT t = true ∧ l.length = t.length ∧ ownT t (bk t l) = true then (bk t l, true) else ([], false)
theorem implOwnOf_loop {t : List B} (hg : GT t) (s : List Int) (hl : s.length = t.length) (wf : ∀ x ∈ s, -9223372036854775808 ≤ x ∧ x ≤ 9223372036854775807) : ∀ (n i : Nat), t.length - i = n → 1 ≤ i → i ≤ t.length →
    Ev (fun k => impl_ownOf.l0 k t s (bkL t s (i - 1)) (i : Int)) (if ownT t (bk t s) = true then (bk t s, true) else ([], false)) := by
  have hi24 := hg.hi
  intro n
  induction n with
  | zero =>
    intro i h1 h2 h3
    obtain rfl : i = t.length := by omega
    have c : ¬ ((t.length : Int) < (t.length : Int)) := by omega
    refine Ev.step (fun k => rfl) ?_
    simp only [impl_ownOf.l0, if_neg c]
    rw [show bkL t s (t.length - 1) = bk t s from rfl]
    refine Ev.bind (implOwn_ev t (bk t s)) ?_
    cases ho : ownT t (bk t s) with
    | false => simp only [Bool.false_eq_true, if_false]; exact Ev.now _
    | true =>
      have o := ownT_iff.1 ho
      simp only [if_true]
      refine Ev.bind (implSub_ev hg _ o.len) ?_
      rw [subW_bk hg s hl wf]
      refine Ev.bind (eqSlice_ev s s (by omega)) ?_
      simp only [decide_true, if_true]
      exact Ev.now _
  | succ n ih =>
    intro i h1 h2 h3
    obtain ⟨m, rfl⟩ : ∃ m, i = m + 1 := ⟨i - 1, by omega⟩
    have a := hg.par0 ((m + 1 : Nat) : Int) (by omega) (by omega)
    have b := hg.par1 ((m + 1 : Nat) : Int) (by omega) (by omega)
    have bl := bkL_length t s m
    have c1 : ((m + 1 : Nat) : Int) < (t.length : Int) := by omega
    have c2 : (0 : Int) ≤ ((m + 1 : Nat) : Int) := by omega
    have c4 : (0 : Int) ≤ (rd_T55 t ((m + 1 : Nat) : Int)).f0 := a
    have c5 : (rd_T55 t ((m + 1 : Nat) : Int)).f0 < ((bkL t s (m + 1 - 1)).length : Int) := by unfold par at b; rw [show m + 1 - 1 = m from rfl]; omega
    have c6 : ((m + 1 : Nat) : Int) < (s.length : Int) := by omega
    have hw : wrap64 (((m + 1 : Nat) : Int) + 1) = ((m + 1 + 1 : Nat) : Int) := by rw [wrap_id (by omega) (by omega)]; omega
    refine Ev.step (fun k => rfl) ?_
    simp only [impl_ownOf.l0, if_pos c1, if_pos c2, if_pos c4, if_pos c5, if_pos c6, hw]
    exact ih (m + 1 + 1) (by omega) (by omega) (by omega)
theorem implOwnOf_ev (t : List B) (l : List Int) (wf : ∀ x ∈ l, -9223372036854775808 ≤ x ∧ x ≤ 9223372036854775807) : Ev (fun k => impl_ownOf.f k t l) (ownOfA t l) := by
  have fls : ¬ (goodT t = true ∧ l.length = t.length ∧ ownT t (bk t l) = true) → Ev (fun k => impl_ownOf.j0 k t l true) (ownOfA t l) := fun h => by
    rw [show ownOfA t l = ([], false) from if_neg h]
    exact Ev.one fun k => by simp only [impl_ownOf.j0, if_true]
  unfold impl_ownOf.f
  refine Ev.bind (implIsTree_ev t) ?_
  cases hg : goodT t with
  | false =>
    simp only [Bool.false_eq_true, if_false]
    exact fls fun h => by rw [hg] at h; exact Bool.noConfusion h.1
  | true =>
    have g := goodT_true.1 hg
    have g24 := g.hi
    have lo := g.lo
    simp only [if_true]
    by_cases hll : (l.length : Int) = (t.length : Int)
    · have hl2 : l.length = t.length := by omega
      have c : l.length < 17592186044416 := by omega
      rw [hll, bne_self_eq_false]
      refine Ev.step (fun k => rfl) ?_
      simp only [impl_ownOf.j0, Bool.false_eq_true, if_false, slices_Clone_int_int.f, if_pos c, Option.bind_some]
      refine (implOwnOf_loop g l hl2 wf (t.length - 1) 1 rfl (by omega) lo).cast ?_
      unfold ownOfA
      cases ho : ownT t (bk t l) with
      | false => rw [if_neg (by simp), if_neg (by simp)]
      | true => rw [if_pos rfl, if_pos ⟨hg, hl2, rfl⟩]
    · have : ((l.length : Int) != (t.length : Int)) = true := by rw [bne_iff_ne]; exact hll
      rw [this]
      exact fls fun h => by omega

theorem implAdd_ev (t : List B) (l : List Int) (b n : Int) (wf : ∀ x ∈ l, -9223372036854775808 ≤ x ∧ x ≤ 9223372036854775807) : Ev (fun k => impl_AddWeight.f k t l b n) (addW t l b n) := by
  unfold impl_AddWeight.f
  refine Ev.bind (implOwnOf_ev t l wf) ?_
  unfold ownOfA
  by_cases h : goodT t = true ∧ l.length = t.length ∧ ownT t (bk t l) = true
  · have o := ownT_iff.1 h.2.2
    have g24 := o.good.hi
    have lo := o.good.lo
    have hw : wrap64 ((t.length : Int) - 1) = (t.length : Int) - 1 := wrap_id (by omega) (by omega)
    simp only [if_pos h, if_true, within_eq, Option.bind_some, hw]
    by_cases c : 0 ≤ b ∧ b ≤ (t.length : Int) - 1
    · have eb : ((b.toNat : Nat) : Int) = b := by omega
      have ob := own_wf o b.toNat
      rw [eb] at ob
      have z2 : b < ((bk t l).length : Int) := by rw [bk_length]; omega
      have w1 : wrap64 (-rd (bk t l) b) = -rd (bk t l) b := wrap_id (by omega) (by omega)
      have w2 : wrap64 (100000 - rd (bk t l) b) = 100000 - rd (bk t l) b := wrap_id (by omega) (by omega)
      simp only [decide_eq_true c, if_true, if_pos c.1, if_pos z2, w1, w2]
      by_cases c3 : 0 ≤ rd (bk t l) b + n ∧ rd (bk t l) b + n ≤ 100000
      · have c4 : -rd (bk t l) b ≤ n ∧ n ≤ 100000 - rd (bk t l) b := by omega
        have w3 : wrap64 (rd (bk t l) b + n) = rd (bk t l) b + n := wrap_id (by omega) (by omega)
        simp only [decide_eq_true c4, if_true, w3]
        refine Ev.bind (implSub_ev o.good _ (by rw [List.length_set]; exact o.len)) ?_
        exact (Ev.now _).cast (if_pos ⟨h.1, h.2.1, h.2.2, by omega, c3⟩).symm
      · have c4 : ¬ (-rd (bk t l) b ≤ n ∧ n ≤ 100000 - rd (bk t l) b) := by omega
        simp only [decide_eq_false c4, Bool.false_eq_true, if_false]
        exact (Ev.now _).cast (addW_no fun h => c3 h.2.2.2.2).symm
    · simp only [decide_eq_false c, Bool.false_eq_true, if_false]
      exact (Ev.now _).cast (addW_no fun h => by omega).symm
  · simp only [if_neg h, Bool.false_eq_true, if_false]
    exact (Ev.now _).cast (addW_no fun h2 => h ⟨h2.1, h2.2.1, h2.2.2.1⟩).symm

theorem wf_int {x : Int} (h : (Lit.int .i64 x).wf = true) : -9223372036854775808 ≤ x ∧ x ≤ 9223372036854775807 := by
  have h1 : (decide (IntKind.i64.min ≤ x) && decide (x ≤ IntKind.i64.max)) = true := h
  rw [Bool.and_eq_true] at h1
  exact ⟨of_decide_eq_true h1.1, of_decide_eq_true h1.2⟩

end Go.Proofs.Ytnakodhmpacpdaa.Pure
