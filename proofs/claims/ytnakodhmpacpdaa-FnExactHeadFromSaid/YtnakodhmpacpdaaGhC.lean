/-
Children and the heaviest child, in plain Lean.
Conditions: none beyond each lemma's own premises.
-/
import Derived.Test.YtnakodhmpacpdaaTreeA
import Derived.Test.YtnakodhmpacpdaaQ0
import Derived.Test.YtnakodhmpacpdaaQ17
import Derived.Test.YtnakodhmpacpdaaQ20
namespace Go.Proofs.Ytnakodhmpacpdaa.Pure
open Go.RowKit Go.Proofs.Ytnakodhmpacpdaa.Q Go.Proofs.Ytnakodhmpacpdaa.Gen Go.Proofs.YtnakodhmpacpdaaW.PrintWords Go.Proofs.YtnakodhmpacpdaaW.PrintLast
set_option linter.unusedVariables false
set_option linter.unusedSimpArgs false

/-! ### children -/
/-- The blocks from index i on whose parent is b. -/
def chl (b : Int) : Int → List B → List Int
  | _, [] => []
  | i, x :: xs => if x.f0 = b then i :: chl b (i + 1) xs else chl b (i + 1) xs
def children (t : List B) (b : Int) : List Int := chl b 0 t

theorem chl_mem (b : Int) : ∀ (xs : List B) (i k : Int), k ∈ chl b i xs ↔ ∃ j : Nat, ∃ x, xs[j]? = some x ∧ x.f0 = b ∧ k = i + j
  | [], i, k => by simp [chl]
  | x :: xs, i, k => by
    unfold chl
    by_cases h : x.f0 = b
    · rw [if_pos h, List.mem_cons, chl_mem b xs (i + 1) k]
      constructor
      · rintro (rfl | ⟨j, y, h1, h2, h3⟩)
        · exact ⟨0, x, rfl, h, by omega⟩
        · exact ⟨j + 1, y, by simpa using h1, h2, by omega⟩
      · rintro ⟨j, y, h1, h2, h3⟩
        cases j with
        | zero => exact .inl (by omega)
        | succ j => exact .inr ⟨j, y, by simpa using h1, h2, by omega⟩
    · rw [if_neg h, chl_mem b xs (i + 1) k]
      constructor
      · rintro ⟨j, y, h1, h2, h3⟩
        exact ⟨j + 1, y, by simpa using h1, h2, by omega⟩
      · rintro ⟨j, y, h1, h2, h3⟩
        cases j with
        | zero =>
          simp only [List.getElem?_cons_zero, Option.some.injEq] at h1
          exact absurd (h1 ▸ h2) h
        | succ j => exact ⟨j, y, by simpa using h1, h2, by omega⟩
theorem chl_length (b : Int) : ∀ (xs : List B) (i : Int), (chl b i xs).length ≤ xs.length
  | [], i => by simp [chl]
  | x :: xs, i => by
    unfold chl
    have := chl_length b xs (i + 1)
    split <;> simp <;> omega
theorem children_length (t : List B) (b : Int) : (children t b).length ≤ t.length := chl_length _ _ _
theorem children_mem (t : List B) (b k : Int) : k ∈ children t b ↔ 0 ≤ k ∧ k < t.length ∧ par t k = b := by
  unfold children
  rw [chl_mem]
  constructor
  · rintro ⟨j, x, h1, h2, h3⟩
    have hj := (List.getElem?_eq_some_iff.1 h1).1
    obtain rfl : k = (j : Int) := by omega
    refine ⟨by omega, by omega, ?_⟩
    unfold par
    rw [rdB_at h1]
    exact h2
  · rintro ⟨h0, h1, h2⟩
    obtain ⟨j, rfl⟩ := Int.eq_ofNat_of_zero_le h0
    have hj : j < t.length := by omega
    refine ⟨j, t[j], List.getElem?_eq_getElem hj, ?_, by omega⟩
    unfold par at h2
    rwa [rdB_at (List.getElem?_eq_getElem hj)] at h2

theorem implChildren_ev (t : List B) (b : Int) (ht : t.length ≤ 1048576) : Ev (fun k => impl_childrenOf.f k t b) (children t b) := by
  unfold impl_childrenOf.f
  have key := ev_list_inv (fun k s i => impl_childrenOf.l0 k b s t (t.length : Int) i) (fun xs s => s ++ chl b ((t.length : Int) - (xs.length : Int)) xs) (fun i s => s.length ≤ i) t ?_ ?_ ([] : List Int) (Nat.le_refl _)
  · refine key.cast ?_
    show [] ++ chl b ((t.length : Int) - (t.length : Int)) t = children t b
    rw [List.nil_append, Int.sub_self]
    rfl
  · intro s hs
    refine Ev.one fun k => ?_
    simp only [impl_childrenOf.l0]
    rw [if_neg (by omega)]
    simp [chl]
  · intro i x xs s hs hd hi hx h
    have c1 : (i : Int) < (t.length : Int) := by omega
    have c2 : (0 : Int) ≤ (i : Int) := by omega
    have c3 : s.length < 17592186044416 := by omega
    have hw : wrap64 ((i : Int) + 1) = (i : Int) + 1 := wrap_id (by omega) (by omega)
    have hlen : xs.length + 1 = t.length - i := by have := congrArg List.length hd; simpa using this.symm
    have e1 : (t.length : Int) - ((x :: xs).length : Int) = (i : Int) := by simp only [List.length_cons]; omega
    have e2 : (t.length : Int) - (xs.length : Int) = (i : Int) + 1 := by omega
    refine Ev.step (fun k => rfl) ?_
    rw [e1]
    rw [e2] at h
    simp only [impl_childrenOf.l0, if_pos c1, if_pos c2, if_pos c3, rdB_at hx, hw, chl]
    by_cases e : x.f0 = b
    · simp only [if_pos e]
      exact (h (s ++ [(i : Int)]) (by simp; omega)).cast (by simp)
    · simp only [if_neg e]
      exact h s (by omega)

theorem specChildren_ev {t : List B} (hg : GT t) (b : Int) (hb : 0 ≤ b) : Ev (fun k => spec_l4Children.f k t b) (children t b) := by
  have ht := hg.hi
  unfold spec_l4Children.f
  have key := ev_list_inv (fun k s i => spec_l4Children.l0 k b s t (t.length : Int) i) (fun xs s => s ++ chl b ((t.length : Int) - (xs.length : Int)) xs) (fun i s => s.length ≤ i) t ?_ ?_ ([] : List Int) (Nat.le_refl _)
  · refine key.cast ?_
    show [] ++ chl b ((t.length : Int) - (t.length : Int)) t = children t b
    rw [List.nil_append, Int.sub_self]
    rfl
  · intro s hs
    refine Ev.one fun k => ?_
    simp only [spec_l4Children.l0]
    rw [if_neg (by omega)]
    simp [chl]
  · intro i x xs s hs hd hi hx h
    have c1 : (i : Int) < (t.length : Int) := by omega
    have c2 : (0 : Int) ≤ (i : Int) := by omega
    have c3 : s.length < 17592186044416 := by omega
    have hw : wrap64 ((i : Int) + 1) = (i : Int) + 1 := wrap_id (by omega) (by omega)
    have hlen : xs.length + 1 = t.length - i := by have := congrArg List.length hd; simpa using this.symm
    have e1 : (t.length : Int) - ((x :: xs).length : Int) = (i : Int) := by simp only [List.length_cons]; omega
    have e2 : (t.length : Int) - (xs.length : Int) = (i : Int) + 1 := by omega
    refine Ev.step (fun k => rfl) ?_
    rw [e1]
    rw [e2] at h
    simp only [spec_l4Children.l0, if_pos c1, if_pos c2, if_pos c3, rdB_at hx, hw, chl]
    by_cases e : x.f0 = b
    · have c4 : (i : Int) > 0 := by
        by_cases z : i = 0
        · subst z
          have := hg.p0
          unfold par at this
          rw [show (0 : Int) = ((0 : Nat) : Int) from rfl, rdB_at hx] at this
          omega
        · omega
      simp only [if_pos e, if_pos c4]
      exact (h (s ++ [(i : Int)]) (by simp; omega)).cast (by simp)
    · simp only [if_neg e]
      exact h s (by omega)

/-! ### the heaviest child -/
def hvL (sub : List Int) : List Int → Int → Int
  | [], best => best
  | k :: ks, best => hvL sub ks (if best < 0 then k else if rd sub k ≥ rd sub best then k else best)
def hv (t : List B) (sub : List Int) (b : Int) : Int := hvL sub (children t b) (-1)

theorem implHeaviestL_ev (sub ch : List Int) (hch : ch.length ≤ 1048576) (hin : ∀ k ∈ ch, 0 ≤ k ∧ k < sub.length) (best : Int) (hb : best < sub.length) :
    Ev (fun k => impl_heaviest.l0 k sub best ch (ch.length : Int) 0) (hvL sub ch best) := by
  refine ev_list_inv (fun k s i => impl_heaviest.l0 k sub s ch (ch.length : Int) i) (fun xs s => hvL sub xs s) (fun i s => s < sub.length) ch ?_ ?_ best hb
  · intro s hs
    refine Ev.one fun k => ?_
    simp only [impl_heaviest.l0]
    rw [if_neg (by omega)]
    rfl
  · intro i x xs s hs hd hi hx h
    have c1 : (i : Int) < (ch.length : Int) := by omega
    have c2 : (0 : Int) ≤ (i : Int) := by omega
    have hw : wrap64 ((i : Int) + 1) = (i : Int) + 1 := wrap_id (by omega) (by omega)
    obtain ⟨x0, x1⟩ := hin x (List.mem_of_getElem? hx)
    refine Ev.step (fun k => rfl) ?_
    simp only [impl_heaviest.l0, if_pos c1, if_pos c2, rd_at hx, hw, hvL]
    by_cases c3 : s < 0
    · simp only [if_pos c3]
      exact h x x1
    · have c4 : 0 ≤ s := by omega
      simp only [if_neg c3, if_pos x0, if_pos x1, if_pos c4, if_pos hs]
      by_cases c5 : rd sub x ≥ rd sub s
      · simp only [if_pos c5]
        exact h x x1
      · simp only [if_neg c5]
        exact h s hs
theorem specHeaviestL_ev (sub ch : List Int) (hch : ch.length ≤ 1048576) (hin : ∀ k ∈ ch, 0 ≤ k ∧ k < sub.length) (best : Int) (hb : best < sub.length) :
    Ev (fun k => spec_l7Child.l0 k sub best ch (ch.length : Int) 0) (hvL sub ch best) := by
  refine ev_list_inv (fun k s i => spec_l7Child.l0 k sub s ch (ch.length : Int) i) (fun xs s => hvL sub xs s) (fun i s => s < sub.length) ch ?_ ?_ best hb
  · intro s hs
    refine Ev.one fun k => ?_
    simp only [spec_l7Child.l0]
    rw [if_neg (by omega)]
    rfl
  · intro i x xs s hs hd hi hx h
    have c1 : (i : Int) < (ch.length : Int) := by omega
    have c2 : (0 : Int) ≤ (i : Int) := by omega
    have hw : wrap64 ((i : Int) + 1) = (i : Int) + 1 := wrap_id (by omega) (by omega)
    obtain ⟨x0, x1⟩ := hin x (List.mem_of_getElem? hx)
    refine Ev.step (fun k => rfl) ?_
    simp only [spec_l7Child.l0, if_pos c1, if_pos c2, rd_at hx, hw, hvL]
    by_cases c3 : s < 0
    · simp only [if_pos c3]
      exact h x x1
    · have c4 : 0 ≤ s := by omega
      simp only [if_neg c3, if_pos x0, if_pos x1, if_pos c4, if_pos hs]
      by_cases c5 : rd sub x ≥ rd sub s
      · simp only [if_pos c5]
        exact h x x1
      · simp only [if_neg c5]
        exact h s hs

theorem implHeaviest_ev {t : List B} (hg : GT t) (sub : List Int) (hs : sub.length = t.length) (b : Int) : Ev (fun k => impl_heaviest.f k t sub b) (hv t sub b) := by
  have hi := hg.hi
  have lo := hg.lo
  unfold impl_heaviest.f
  refine Ev.bind (implChildren_ev t b (by omega)) ?_
  have cl := children_length t b
  exact implHeaviestL_ev sub _ (by omega) (fun k hk => by have := (children_mem t b k).1 hk; omega) (-1) (by omega)
theorem specHeaviest_ev {t : List B} (hg : GT t) (sub : List Int) (hs : sub.length = t.length) (b : Int) (hb : 0 ≤ b) : Ev (fun k => spec_l7Child.f k t sub b) (hv t sub b) := by
  have hi := hg.hi
  have lo := hg.lo
  unfold spec_l7Child.f
  refine Ev.bind (specChildren_ev hg b hb) ?_
  have cl := children_length t b
  exact specHeaviestL_ev sub _ (by omega) (fun k hk => by have := (children_mem t b k).1 hk; omega) (-1) (by omega)

theorem hvL_mem (sub : List Int) : ∀ (ch : List Int) (best : Int), hvL sub ch best = best ∨ hvL sub ch best ∈ ch
  | [], best => .inl rfl
  | k :: ks, best => by
    unfold hvL
    rcases hvL_mem sub ks (if best < 0 then k else if rd sub k ≥ rd sub best then k else best) with h | h
    · rw [h]
      split
      · exact .inr (by simp)
      · split
        · exact .inr (by simp)
        · exact .inl rfl
    · exact .inr (by simp [h])
theorem hv_mem {t : List B} (sub : List Int) (b : Int) (h : 0 ≤ hv t sub b) : hv t sub b ∈ children t b := by
  rcases hvL_mem sub (children t b) (-1) with e | e
  · unfold hv at h; rw [e] at h; omega
  · exact e
theorem hv_gt {t : List B} (hg : GT t) (sub : List Int) (b : Int) (h : 0 ≤ hv t sub b) (hb : 0 ≤ b) : b < hv t sub b ∧ hv t sub b < t.length := by
  obtain ⟨h0, h1, h2⟩ := (children_mem t b _).1 (hv_mem sub b h)
  by_cases z : hv t sub b = 0
  · rw [z, hg.p0] at h2; omega
  · have := hg.par1 _ (by omega) h1
    omega

end Go.Proofs.Ytnakodhmpacpdaa.Pure
