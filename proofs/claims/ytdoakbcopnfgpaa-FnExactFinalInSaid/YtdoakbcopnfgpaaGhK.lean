/-
Children in plain Lean.
Conditions: none beyond each lemma's own premises.
-/
import Derived.Test.YtdoakbcopnfgpaaTreeA
import Derived.Test.YtdoakbcopnfgpaaQ0
import Derived.Test.YtdoakbcopnfgpaaQ34
namespace Go.Proofs.Ytdoakbcopnfgpaa.Pure
open Go.RowKit Go.Proofs.Ytdoakbcopnfgpaa.Q Go.Proofs.Ytdoakbcopnfgpaa.Gen Go.Proofs.YtdoakbcopnfgpaaW.PrintWords Go.Proofs.YtdoakbcopnfgpaaW.PrintLast
set_option linter.unusedVariables false
set_option linter.unusedSimpArgs false

/-! ### children -/
/-- The blocks from index i on whose parent is b. -/
def chl (b : Int) : Int → List B → List Int
  | _, [] => []
  | i, x :: xs => if x.f0 = b then i :: chl b (i + 1) xs else chl b (i + 1) xs
def children (t : List B) (b : Int) : List Int := chl b 0 t

theorem chl_mem (b : Int) : ∀ (xs : List B) (i k : Int), k ∈ chl b i xs ↔ ∃ j : Nat, ∃ x, xs[j]? = some x ∧ x.f0 = b ∧ k = i + j
  | [], i, k => by simp [chl]
  | x :: xs, i, k => by
    unfold chl
    by_cases h : x.f0 = b
    · rw [if_pos h, List.mem_cons, chl_mem b xs (i + 1) k]
      constructor
      · rintro (rfl | ⟨j, y, h1, h2, h3⟩)
        · exact ⟨0, x, rfl, h, by omega⟩
        · exact ⟨j + 1, y, by simpa using h1, h2, by omega⟩
      · rintro ⟨j, y, h1, h2, h3⟩
        cases j with
        | zero => exact .inl (by omega)
        | succ j => exact .inr ⟨j, y, by simpa using h1, h2, by omega⟩
    · rw [if_neg h, chl_mem b xs (i + 1) k]
      constructor
      · rintro ⟨j, y, h1, h2, h3⟩
        exact ⟨j + 1, y, by simpa using h1, h2, by omega⟩
      · rintro ⟨j, y, h1, h2, h3⟩
        cases j with
        | zero =>
          simp only [List.getElem?_cons_zero, Option.some.injEq] at h1
          exact absurd (h1 ▸ h2) h
        | succ j => exact ⟨j, y, by simpa using h1, h2, by omega⟩
theorem chl_length (b : Int) : ∀ (xs : List B) (i : Int), (chl b i xs).length ≤ xs.length
  | [], i => by simp [chl]
  | x :: xs, i => by
    unfold chl
    have := chl_length b xs (i + 1)
    split <;> simp <;> omega
theorem children_length (t : List B) (b : Int) : (children t b).length ≤ t.length := chl_length _ _ _
theorem children_mem (t : List B) (b k : Int) : k ∈ children t b ↔ 0 ≤ k ∧ k < t.length ∧ par t k = b := by
  unfold children
  rw [chl_mem]
  constructor
  · rintro ⟨j, x, h1, h2, h3⟩
    have hj := (List.getElem?_eq_some_iff.1 h1).1
    obtain rfl : k = (j : Int) := by omega
    refine ⟨by omega, by omega, ?_⟩
    unfold par
    rw [rdB_at h1]
    exact h2
  · rintro ⟨h0, h1, h2⟩
    obtain ⟨j, rfl⟩ := Int.eq_ofNat_of_zero_le h0
    have hj : j < t.length := by omega
    refine ⟨j, t[j], List.getElem?_eq_getElem hj, ?_, by omega⟩
    unfold par at h2
    rwa [rdB_at (List.getElem?_eq_getElem hj)] at h2

theorem implChildren_ev (t : List B) (b : Int) (ht : t.length ≤ 1048576) : Ev (fun k => impl_childrenOf.f k t b) (children t b) := by
  unfold impl_childrenOf.f
  have key := ev_list_inv (fun k s i => impl_childrenOf.l0 k b s t (t.length : Int) i) (fun xs s => s ++ chl b ((t.length : Int) - (xs.length : Int)) xs) (fun i s => s.length ≤ i) t ?_ ?_ ([] : List Int) (Nat.le_refl _)
  · refine key.cast ?_
    show [] ++ chl b ((t.length : Int) - (t.length : Int)) t = children t b
    rw [List.nil_append, Int.sub_self]
    rfl
  · intro s hs
    refine Ev.one fun k => ?_
    simp only [impl_childrenOf.l0]
    rw [if_neg (by omega)]
    simp [chl]
  · intro i x xs s hs hd hi hx h
    have c1 : (i : Int) < (t.length : Int) := by omega
    have c2 : (0 : Int) ≤ (i : Int) := by omega
    have c3 : s.length < 17592186044416 := by omega
    have hw : wrap64 ((i : Int) + 1) = (i : Int) + 1 := wrap_id (by omega) (by omega)
    have hlen : xs.length + 1 = t.length - i := by have := congrArg List.length hd; simpa using this.symm
    have e1 : (t.length : Int) - ((x :: xs).length : Int) = (i : Int) := by simp only [List.length_cons]; omega
    have e2 : (t.length : Int) - (xs.length : Int) = (i : Int) + 1 := by omega
    refine Ev.step (fun k => rfl) ?_
    rw [e1]
    rw [e2] at h
    simp only [impl_childrenOf.l0, if_pos c1, if_pos c2, if_pos c3, rdB_at hx, hw, chl]
    by_cases e : x.f0 = b
    · simp only [if_pos e]
      exact (h (s ++ [(i : Int)]) (by simp; omega)).cast (by simp)
    · simp only [if_neg e]
      exact h s (by omega)

end Go.Proofs.Ytdoakbcopnfgpaa.Pure
