/-
Who links two blocks, in plain Lean.
Conditions: none beyond each lemma's own premises.
-/
import Derived.Test.YtdoakbcopnfgpaaGrpP
import Derived.Test.YtdoakbcopnfgpaaLnk
import Derived.Test.YtdoakbcopnfgpaaQ0
import Derived.Test.YtdoakbcopnfgpaaQ29
import Derived.Test.YtdoakbcopnfgpaaQ33
namespace Go.Proofs.Ytdoakbcopnfgpaa.Pure
open Go.RowKit Go.Proofs.Ytdoakbcopnfgpaa.Q Go.Proofs.Ytdoakbcopnfgpaa.Gen Go.Proofs.YtdoakbcopnfgpaaW.PrintWords Go.Proofs.YtdoakbcopnfgpaaW.PrintLast
set_option linter.unusedVariables false
set_option linter.unusedSimpArgs false

/-- The voters of the links from a to b. -/
def wsOf (a b : Int) : List L → List Int
  | [] => []
  | x :: xs => if x.f1 = a then (if x.f2 = b then x.f0 :: wsOf a b xs else wsOf a b xs) else wsOf a b xs
theorem wsOf_mem (a b : Int) : ∀ (l : List L) (w : Int), w ∈ wsOf a b l → ∃ x ∈ l, x.f0 = w
  | [], w, h => by simp [wsOf] at h
  | x :: xs, w, h => by
    unfold wsOf at h
    split at h
    · split at h
      · rcases List.mem_cons.1 h with h | h
        · exact ⟨x, by simp, h.symm⟩
        · obtain ⟨y, hy, e⟩ := wsOf_mem a b xs w h
          exact ⟨y, by simp [hy], e⟩
      · obtain ⟨y, hy, e⟩ := wsOf_mem a b xs w h
        exact ⟨y, by simp [hy], e⟩
    · obtain ⟨y, hy, e⟩ := wsOf_mem a b xs w h
      exact ⟨y, by simp [hy], e⟩
theorem specWho_ev (l : List L) (a b : Int) (hl : l.length ≤ 1048576) (h9 : ∀ x ∈ l, 0 ≤ x.f0 ∧ x.f0 ≤ 9) : Ev (fun k => spec_l10Who.f k l a b) (grp (wsOf a b l)) := by
  unfold spec_l10Who.f
  refine (ev_list_inv (σ := List Int) (fun k s i => spec_l10Who.l0 k a b s l (l.length : Int) i) (fun xs s => (wsOf a b xs).foldl put s) (fun i s => s.length ≤ i) l ?_ ?_ [] (by simp)).cast ?_
  · intro s _
    refine Ev.one fun k => ?_
    simp only [spec_l10Who.l0]
    rw [if_neg (by omega)]
    rfl
  · intro i x xs s hs hd hi hx h
    have c1 : (i : Int) < (l.length : Int) := by omega
    have c2 : (0 : Int) ≤ (i : Int) := by omega
    have hw : wrap64 ((i : Int) + 1) = (i : Int) + 1 := wrap_id (by omega) (by omega)
    have hr : rd_T53 l (i : Int) = x := getD_at l z53 hx
    refine Ev.step (fun k => rfl) ?_
    simp only [spec_l10Who.l0, if_pos c1, if_pos c2, hr, hw]
    by_cases e1 : x.f1 = a
    · simp only [if_pos e1]
      by_cases e2 : x.f2 = b
      · simp only [if_pos e2]
        refine Ev.bind (putS_ev s x.f0 (by omega)) ?_
        refine (h (put s x.f0) (by have := put_length s x.f0; omega)).cast ?_
        simp only [wsOf, if_pos e1, if_pos e2, List.foldl_cons]
      · simp only [if_neg e2]
        refine (h s (by omega)).cast ?_
        simp only [wsOf, if_pos e1, if_neg e2]
    · simp only [if_neg e1]
      refine (h s (by omega)).cast ?_
      simp only [wsOf, if_neg e1]
  · have := put_fold (wsOf a b l) [] (fun w hw => by obtain ⟨x, hx, e⟩ := wsOf_mem a b l w hw; have := h9 x hx; omega)
    rw [grp_nil] at this
    exact this
theorem implWho_ev (l : List L) (a b : Int) (hl : l.length ≤ 1048576) (h9 : ∀ x ∈ l, 0 ≤ x.f0 ∧ x.f0 ≤ 9) : Ev (fun k => impl_whoLinks.f k l a b) ((mkF (wsOf a b l) 0 : Nat) : Int) := by
  unfold impl_whoLinks.f
  refine (ev_list_inv (σ := Nat) (fun k s i => impl_whoLinks.l0 k a b (s : Int) l (l.length : Int) i) (fun xs s => ((mkF (wsOf a b xs) s : Nat) : Int)) (fun i s => s < 1024) l ?_ ?_ 0 (by omega))
  · intro s _
    refine Ev.one fun k => ?_
    simp only [impl_whoLinks.l0]
    rw [if_neg (by omega)]
    rfl
  · intro i x xs s hs hd hi hx h
    have c1 : (i : Int) < (l.length : Int) := by omega
    have c2 : (0 : Int) ≤ (i : Int) := by omega
    have hw : wrap64 ((i : Int) + 1) = (i : Int) + 1 := wrap_id (by omega) (by omega)
    have hr : rd_T53 l (i : Int) = x := getD_at l z53 hx
    have q := h9 x (List.mem_of_getElem? hx)
    have c3 : (0 : Int) ≤ x.f0 := q.1
    refine Ev.step (fun k => rfl) ?_
    simp only [impl_whoLinks.l0, if_pos c1, if_pos c2, hr, hw, if_pos c3]
    by_cases e1 : x.f1 = a
    · simp only [if_pos e1]
      by_cases e2 : x.f2 = b
      · obtain ⟨o1, o2⟩ := or_step s x.f0 hs q.1 q.2
        simp only [if_pos e2, o1]
        refine (h _ o2).cast ?_
        simp only [wsOf, if_pos e1, if_pos e2, mkF]
      · simp only [if_neg e2]
        refine (h s hs).cast ?_
        simp only [wsOf, if_pos e1, if_neg e2]
    · simp only [if_neg e1]
      refine (h s hs).cast ?_
      simp only [wsOf, if_neg e1]
theorem GL.nine {t : List B} {st : List Int} {l : List L} (g : GL t st l) : ∀ x ∈ l, 0 ≤ x.f0 ∧ x.f0 ≤ 9 := fun x hx => by
  have := g.who0 x hx
  have := g.st1
  omega
theorem GL.ws {t : List B} {st : List Int} {l : List L} (g : GL t st l) (a b : Int) : ∀ x ∈ wsOf a b l, 0 ≤ x ∧ x < (st.length : Int) := fun w hw => by
  obtain ⟨x, hx, e⟩ := wsOf_mem a b l w hw
  have := g.who0 x hx
  omega
theorem ws9 {t : List B} {st : List Int} {l : List L} (g : GL t st l) (a b : Int) : ∀ x ∈ wsOf a b l, 0 ≤ x ∧ x ≤ 9 := fun w hw => by
  have := g.ws a b w hw
  have := g.st1
  omega

end Go.Proofs.Ytdoakbcopnfgpaa.Pure
