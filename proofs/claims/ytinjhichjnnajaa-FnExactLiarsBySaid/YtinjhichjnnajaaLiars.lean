/-
The voters that proofs are against, and what they have at stake, in plain Lean.
Conditions: none beyond each lemma's own premises.
-/
import Derived.Test.YtinjhichjnnajaaLies
import Derived.Test.YtinjhichjnnajaaGrpP
import Derived.Test.YtinjhichjnnajaaQ0
import Derived.Test.YtinjhichjnnajaaQ33
import Derived.Test.YtinjhichjnnajaaQ34
namespace Go.Proofs.Ytinjhichjnnajaa.Pure
open Go.RowKit Go.Proofs.Ytinjhichjnnajaa.Q Go.Proofs.Ytinjhichjnnajaa.Gen Go.Proofs.YtinjhichjnnajaaW.PrintWords Go.Proofs.YtinjhichjnnajaaW.PrintLast
set_option linter.unusedVariables false
set_option linter.unusedSimpArgs false

def liars (t : List B) (l : List L) : List Int := (liesL t l).map fun p => p.f0.f0
theorem liars_mem {t : List B} {st : List Int} {l : List L} (g : GL t st l) : ∀ x ∈ liars t l, 0 ≤ x ∧ x < (st.length : Int) := fun x hx => by
  obtain ⟨p, hp, rfl⟩ := List.mem_map.1 hx
  exact g.who0 _ (liesL_mem hp).1
theorem liars9 {t : List B} {st : List Int} {l : List L} (g : GL t st l) : ∀ x ∈ liars t l, 0 ≤ x ∧ x ≤ 9 := fun x hx => by
  have := liars_mem g x hx
  have := g.st1
  omega
theorem liesL_length (t : List B) : ∀ l : List L, (liesL t l).length ≤ l.length * l.length
  | [] => by simp [liesL]
  | a :: l => by
    have := liesL_length t l
    have h2 : (liesA t a l).length ≤ l.length := by unfold liesA; rw [List.length_map]; exact List.length_filter_le _ _
    rw [liesL, List.length_append, List.length_cons, Nat.add_mul, Nat.mul_add]
    omega
theorem lies1600 {t : List B} {st : List Int} {l : List L} (g : GL t st l) : (liesL t l).length ≤ 1600 := by
  have h := g.len
  have := liesL_length t l
  have : l.length * l.length ≤ 40 * 40 := Nat.mul_le_mul h h
  omega
theorem specLiars_ev {t : List B} {st : List Int} {l : List L} (g : GL t st l) : Ev (fun k => spec_l11Liars.f k t l) (grp (liars t l)) := by
  have hn := lies1600 g
  unfold spec_l11Liars.f
  refine Ev.bind (specLies_ev g.tree l g.len g.inT) ?_
  have h9 := liars9 g
  unfold liars at *
  generalize hP : liesL t l = P at *
  refine (ev_list_inv (σ := List Int) (fun k s i => spec_l11Liars.l0 k s P (P.length : Int) i) (fun xs s => (xs.map fun p => p.f0.f0).foldl put s) (fun i s => s.length ≤ i) P ?_ ?_ [] (by simp)).cast ?_
  · intro s _
    refine Ev.one fun k => ?_
    simp only [spec_l11Liars.l0]
    rw [if_neg (by omega)]
    rfl
  · intro i x xs s hs hd hi hx h
    have c1 : (i : Int) < (P.length : Int) := by omega
    have c2 : (0 : Int) ≤ (i : Int) := by omega
    have hw : wrap64 ((i : Int) + 1) = (i : Int) + 1 := wrap_id (by omega) (by omega)
    have hr : rd_T48 P (i : Int) = x := getD_at P z48 hx
    refine Ev.step (fun k => rfl) ?_
    simp only [spec_l11Liars.l0, if_pos c1, if_pos c2, hr, hw]
    refine Ev.bind (putS_ev s x.f0.f0 (by omega)) ?_
    exact h (put s x.f0.f0) (by have := put_length s x.f0.f0; omega)
  · have := put_fold (P.map fun p => p.f0.f0) [] h9
    rw [grp_nil] at this
    exact this
theorem implLiars_ev {t : List B} {st : List Int} {l : List L} (g : GL t st l) : Ev (fun k => impl_liarsBy.f k t l) ((mkF (liars t l) 0 : Nat) : Int) := by
  have hn := lies1600 g
  unfold impl_liarsBy.f
  refine Ev.bind (implLies_ev g.tree l g.len g.inT) ?_
  have h9 := liars9 g
  unfold liars at *
  generalize hP : liesL t l = P at *
  refine ev_list_inv (σ := Nat) (fun k s i => impl_liarsBy.l0 k (s : Int) P (P.length : Int) i) (fun xs s => ((mkF (xs.map fun p => p.f0.f0) s : Nat) : Int)) (fun i s => s < 1024) P ?_ ?_ 0 (by omega)
  · intro s _
    refine Ev.one fun k => ?_
    simp only [impl_liarsBy.l0]
    rw [if_neg (by omega)]
    rfl
  · intro i x xs s hs hd hi hx h
    have c1 : (i : Int) < (P.length : Int) := by omega
    have c2 : (0 : Int) ≤ (i : Int) := by omega
    have hw : wrap64 ((i : Int) + 1) = (i : Int) + 1 := wrap_id (by omega) (by omega)
    have hr : rd_T48 P (i : Int) = x := getD_at P z48 hx
    have q := h9 x.f0.f0 (List.mem_map.2 ⟨x, List.mem_of_getElem? hx, rfl⟩)
    have c3 : (0 : Int) ≤ x.f0.f0 := q.1
    obtain ⟨o1, o2⟩ := or_step s x.f0.f0 hs q.1 q.2
    refine Ev.step (fun k => rfl) ?_
    simp only [impl_liarsBy.l0, if_pos c1, if_pos c2, hr, hw, if_pos c3, o1]
    exact h _ o2

end Go.Proofs.Ytinjhichjnnajaa.Pure
