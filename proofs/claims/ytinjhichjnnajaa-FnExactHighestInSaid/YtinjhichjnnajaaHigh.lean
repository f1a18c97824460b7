/-
HighestIn in plain Lean.
Conditions: none beyond each lemma's own premises.
-/
import Derived.Test.YtinjhichjnnajaaJst
import Derived.Test.YtinjhichjnnajaaDep
import Derived.Test.YtinjhichjnnajaaQ0
import Derived.Test.YtinjhichjnnajaaQ41
import Derived.Test.YtinjhichjnnajaaQ42
namespace Go.Proofs.Ytinjhichjnnajaa.Pure
open Go.RowKit Go.Proofs.Ytinjhichjnnajaa.Q Go.Proofs.Ytinjhichjnnajaa.Gen Go.Proofs.YtinjhichjnnajaaW.PrintWords Go.Proofs.YtinjhichjnnajaaW.PrintLast
set_option linter.unusedVariables false
set_option linter.unusedSimpArgs false

def hiG (t : List B) : List Int → Int → Int
  | [], best => best
  | b :: bs, best => hiG t bs (if dep t b ≥ dep t best then b else best)
theorem dep_len {t : List B} (hg : GT t) (b : Int) (hb : b < t.length) : dep t b = ((way t b).length : Int) - 1 := by
  have h := way_length hg b hb
  have hi := hg.hi
  unfold dep
  exact wrap_id (by omega) (by omega)
noncomputable def highA (t : List B) (st : List Int) (l : List L) : Int × Bool := if linksB t st l = true then (hiG t (justified t st l) 0, true) else (0, false)
theorem specHigh_ev (t : List B) (st : List Int) (l : List L) (ht : t.length ≤ 1048576) (hs : st.length ≤ 1048576) (hl : l.length ≤ 1048576) : Ev (fun k => spec_HighestIn.f k t st l) (highA t st l) := by
  unfold spec_HighestIn.f highA
  refine Ev.bind (specLinks_ev t st l ht hs hl) ?_
  cases hb : linksB t st l with
  | false => simp only [Bool.false_eq_true, if_false]; exact Ev.now _
  | true =>
    have g := linksB_gl hb
    simp only [if_true]
    refine Ev.bind (specJust_ev g) ?_
    have hm := justified_mem g.tree st l
    have hn := justified_length g.tree st l
    have lo := g.tree.lo
    generalize justified t st l = s at *
    refine ev_list_inv (σ := Int) (fun k b i => spec_HighestIn.l0 k t b s (s.length : Int) i) (fun xs b => (hiG t xs b, true)) (fun i b => b < (t.length : Int)) s ?_ ?_ 0 (by omega)
    · intro b _
      refine Ev.one fun k => ?_
      simp only [spec_HighestIn.l0]
      rw [if_neg (by omega)]
      rfl
    · intro i x xs b hb0 hd hi hx h
      have c1 : (i : Int) < (s.length : Int) := by omega
      have c2 : (0 : Int) ≤ (i : Int) := by omega
      have hw : wrap64 ((i : Int) + 1) = (i : Int) + 1 := wrap_id (by omega) (by omega)
      have mx := hm x (List.mem_of_getElem? hx)
      refine Ev.step (fun k => rfl) ?_
      simp only [spec_HighestIn.l0, if_pos c1, if_pos c2, rd_at hx, hw]
      refine Ev.bind (specDepth_ev g.tree x mx.2) ?_
      refine Ev.bind (specDepth_ev g.tree b hb0) ?_
      by_cases c : dep t x ≥ dep t b
      · simp only [if_pos c]
        exact (h x mx.2).cast (by simp only [hiG, if_pos c])
      · simp only [if_neg c]
        exact (h b hb0).cast (by simp only [hiG, if_neg c])
theorem implHigh_ev (t : List B) (st : List Int) (l : List L) (hs : st.length ≤ 1048576) : Ev (fun k => impl_HighestIn.f k t st l) (highA t st l) := by
  unfold impl_HighestIn.f highA
  refine Ev.bind (implLinks_ev t st l hs) ?_
  cases hb : linksB t st l with
  | false => simp only [Bool.false_eq_true, if_false]; exact Ev.now _
  | true =>
    have g := linksB_gl hb
    simp only [if_true]
    refine Ev.bind (implJust_ev g) ?_
    have hm := justified_mem g.tree st l
    have hn := justified_length g.tree st l
    have lo := g.tree.lo
    generalize justified t st l = s at *
    refine Ev.bind (?_ : Ev (fun k => impl_highestOf.f k t s) (hiG t s 0)) (Ev.now _)
    unfold impl_highestOf.f
    refine ev_list_inv (σ := Int) (fun k b i => impl_highestOf.l0 k t b s (s.length : Int) i) (fun xs b => hiG t xs b) (fun i b => b < (t.length : Int)) s ?_ ?_ 0 (by omega)
    · intro b _
      refine Ev.one fun k => ?_
      simp only [impl_highestOf.l0]
      rw [if_neg (by omega)]
      rfl
    · intro i x xs b hb0 hd hi hx h
      have c1 : (i : Int) < (s.length : Int) := by omega
      have c2 : (0 : Int) ≤ (i : Int) := by omega
      have hw : wrap64 ((i : Int) + 1) = (i : Int) + 1 := wrap_id (by omega) (by omega)
      have mx := hm x (List.mem_of_getElem? hx)
      have e1 := dep_len g.tree x mx.2
      have e2 := dep_len g.tree b hb0
      refine Ev.step (fun k => rfl) ?_
      simp only [impl_highestOf.l0, if_pos c1, if_pos c2, rd_at hx, hw]
      refine Ev.bind (implWay_ev g.tree x mx.2) ?_
      refine Ev.bind (implWay_ev g.tree b hb0) ?_
      by_cases c : ((way t x).length : Int) ≥ ((way t b).length : Int)
      · simp only [if_pos c]
        exact (h x mx.2).cast (by simp only [hiG]; rw [if_pos (by omega)])
      · simp only [if_neg c]
        exact (h b hb0).cast (by simp only [hiG]; rw [if_neg (by omega)])

end Go.Proofs.Ytinjhichjnnajaa.Pure
