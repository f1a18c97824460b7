/-
CleanLinks in plain Lean.
Conditions: none beyond each lemma's own premises.
-/
import Derived.Test.YtinjhichjnnajaaMay
import Derived.Test.YtinjhichjnnajaaQ0
import Derived.Test.YtinjhichjnnajaaQ39
namespace Go.Proofs.Ytinjhichjnnajaa.Pure
open Go.RowKit Go.Proofs.Ytinjhichjnnajaa.Q Go.Proofs.Ytinjhichjnnajaa.Gen Go.Proofs.YtinjhichjnnajaaW.PrintWords Go.Proofs.YtinjhichjnnajaaW.PrintLast
set_option linter.unusedVariables false
set_option linter.unusedSimpArgs false

def cleanG (t : List B) : List L → List L → List L
  | [], s => s
  | x :: xs, s => cleanG t xs (if mayB t s x = true then s ++ [x] else s)
noncomputable def cleanA (t : List B) (st : List Int) (l : List L) : List L × Bool := if linksB t st l = true then (cleanG t l [], true) else ([], false)
theorem cleanG_length (t : List B) : ∀ (l s : List L), (cleanG t l s).length ≤ s.length + l.length
  | [], s => by simp [cleanG]
  | x :: xs, s => by
    rw [cleanG]
    by_cases c : mayB t s x = true
    · rw [if_pos c]
      have := cleanG_length t xs (s ++ [x])
      simp at this ⊢
      omega
    · rw [if_neg c]
      have := cleanG_length t xs s
      simp at this ⊢
      omega
theorem cleanA_length (t : List B) (st : List Int) (l : List L) : (cleanA t st l).1.length ≤ 1048576 := by
  unfold cleanA
  split
  · rename_i h
    have := cleanG_length t l []
    have := (linksB_gl h).len
    simp only [List.length_nil] at *
    omega
  · simp
theorem specClean_ev (t : List B) (st : List Int) (l : List L) (ht : t.length ≤ 1048576) (hs : st.length ≤ 1048576) (hl : l.length ≤ 1048576) : Ev (fun k => spec_CleanLinks.f k t st l) (cleanA t st l) := by
  unfold spec_CleanLinks.f cleanA
  refine Ev.bind (specLinks_ev t st l ht hs hl) ?_
  cases hb : linksB t st l with
  | false => simp only [Bool.false_eq_true, if_false]; exact Ev.now _
  | true =>
    have g := linksB_gl hb
    simp only [if_true]
    refine ev_list_inv (σ := List L) (fun k s i => spec_CleanLinks.l0 k t s l (l.length : Int) i) (fun xs s => (cleanG t xs s, true)) (fun i s => s.length ≤ i ∧ ∀ y ∈ s, InT t y) l ?_ ?_ [] ⟨by simp, by simp⟩
    · intro s _
      refine Ev.one fun k => ?_
      simp only [spec_CleanLinks.l0]
      rw [if_neg (by omega)]
      rfl
    · intro i x xs s hs hd hi hx h
      have hs1 := hs.1
      have c1 : (i : Int) < (l.length : Int) := by omega
      have c2 : (0 : Int) ≤ (i : Int) := by omega
      have c3 : s.length < 5864062014805 := by omega
      have hw : wrap64 ((i : Int) + 1) = (i : Int) + 1 := wrap_id (by omega) (by omega)
      have hr : rd_T30 l (i : Int) = x := getD_at l z30 hx
      have ix := g.inT x (List.mem_of_getElem? hx)
      refine Ev.step (fun k => rfl) ?_
      simp only [spec_CleanLinks.l0, if_pos c1, if_pos c2, hr, hw, if_pos c3]
      refine Ev.bind (specMay_ev g.tree s x (by omega) (fun y hy => hs.2 y hy) ix) ?_
      cases e : mayB t s x with
      | true =>
        simp only [if_true]
        refine (h (s ++ [x]) ⟨by simp; omega, fun y hy => ?_⟩).cast ?_
        · rcases List.mem_append.1 hy with hy | hy
          · exact hs.2 y hy
          · rw [List.mem_singleton.1 hy]; exact ix
        · simp only [cleanG, e, if_true]
      | false =>
        simp only [Bool.false_eq_true, if_false]
        refine (h s ⟨by omega, hs.2⟩).cast ?_
        simp only [cleanG, e, Bool.false_eq_true, if_false]
theorem implClean_ev (t : List B) (st : List Int) (l : List L) (ht : t.length ≤ 1048576) (hs : st.length ≤ 1048576) (hl : l.length ≤ 1048576) : Ev (fun k => impl_CleanLinks.f k t st l) (cleanA t st l) := by
  unfold impl_CleanLinks.f cleanA
  refine Ev.bind (implLinks_ev t st l hs) ?_
  cases hb : linksB t st l with
  | false => simp only [Bool.false_eq_true, if_false]; exact Ev.now _
  | true =>
    have g := linksB_gl hb
    simp only [if_true]
    refine ev_list_inv (σ := List L) (fun k s i => impl_CleanLinks.l0 k t s l (l.length : Int) i) (fun xs s => (cleanG t xs s, true)) (fun i s => s.length ≤ i ∧ ∀ y ∈ s, InT t y) l ?_ ?_ [] ⟨by simp, by simp⟩
    · intro s _
      refine Ev.one fun k => ?_
      simp only [impl_CleanLinks.l0]
      rw [if_neg (by omega)]
      rfl
    · intro i x xs s hs hd hi hx h
      have hs1 := hs.1
      have c1 : (i : Int) < (l.length : Int) := by omega
      have c2 : (0 : Int) ≤ (i : Int) := by omega
      have c3 : s.length < 5864062014805 := by omega
      have hw : wrap64 ((i : Int) + 1) = (i : Int) + 1 := wrap_id (by omega) (by omega)
      have hr : rd_T30 l (i : Int) = x := getD_at l z30 hx
      have ix := g.inT x (List.mem_of_getElem? hx)
      refine Ev.step (fun k => rfl) ?_
      simp only [impl_CleanLinks.l0, if_pos c1, if_pos c2, hr, hw, if_pos c3]
      refine Ev.bind (implMay_ev g.tree s x (fun y hy => hs.2 y hy) ix) ?_
      cases e : mayB t s x with
      | true =>
        simp only [if_true]
        refine (h (s ++ [x]) ⟨by simp; omega, fun y hy => ?_⟩).cast ?_
        · rcases List.mem_append.1 hy with hy | hy
          · exact hs.2 y hy
          · rw [List.mem_singleton.1 hy]; exact ix
        · simp only [cleanG, e, if_true]
      | false =>
        simp only [Bool.false_eq_true, if_false]
        refine (h s ⟨by omega, hs.2⟩).cast ?_
        simp only [cleanG, e, Bool.false_eq_true, if_false]

end Go.Proofs.Ytinjhichjnnajaa.Pure
