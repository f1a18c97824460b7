/-
Links that may be taken, in plain Lean.
Conditions: none beyond each lemma's own premises.
-/
import Derived.Test.YtinjhichjnnajaaLie
import Derived.Test.YtinjhichjnnajaaQ0
import Derived.Test.YtinjhichjnnajaaQ36
import Derived.Test.YtinjhichjnnajaaQ37
namespace Go.Proofs.Ytinjhichjnnajaa.Pure
open Go.RowKit Go.Proofs.Ytinjhichjnnajaa.Q Go.Proofs.Ytinjhichjnnajaa.Gen Go.Proofs.YtinjhichjnnajaaW.PrintWords Go.Proofs.YtinjhichjnnajaaW.PrintLast
set_option linter.unusedVariables false
set_option linter.unusedSimpArgs false

def mayB (t : List B) (l : List L) (x : L) : Bool := l.all fun y => !lieB t x y
theorem specMay_ev {t : List B} (hg : GT t) (l : List L) (x : L) (hl : l.length ≤ 1048576) (hin : ∀ y ∈ l, InT t y) (hx : InT t x) : Ev (fun k => spec_l11May.f k t l x.f0 x.f1 x.f2) (mayB t l x) := by
  unfold spec_l11May.f mayB
  refine ev_list (σ := Unit) (fun k _ i => spec_l11May.l0 k t l (l.length : Int) i x.f0 x.f1 x.f2) (fun xs _ => xs.all fun y => !lieB t x y) l ?_ ?_ ()
  · intro s
    refine Ev.one fun k => ?_
    simp only [spec_l11May.l0]
    rw [if_neg (by omega)]
    rfl
  · intro i y ys s hd hi hy h
    have c1 : (i : Int) < (l.length : Int) := by omega
    have c2 : (0 : Int) ≤ (i : Int) := by omega
    have hw : wrap64 ((i : Int) + 1) = (i : Int) + 1 := wrap_id (by omega) (by omega)
    have hr : rd_T30 l (i : Int) = y := getD_at l z30 hy
    refine Ev.step (fun k => rfl) ?_
    simp only [spec_l11May.l0, if_pos c1, if_pos c2, hr, hw, List.all_cons]
    refine Ev.bind (specLie_ev hg x y hx (hin y (List.mem_of_getElem? hy))) ?_
    cases e : lieB t x y with
    | true => simp only [if_true, Bool.not_true, Bool.false_and]; exact Ev.now _
    | false => simp only [Bool.false_eq_true, if_false, Bool.not_false, Bool.true_and]; exact h ()
theorem implMay_ev {t : List B} (hg : GT t) (l : List L) (x : L) (hin : ∀ y ∈ l, InT t y) (hx : InT t x) : Ev (fun k => impl_mayLink.f k t l x.f0 x.f1 x.f2) (mayB t l x) := by
  unfold impl_mayLink.f mayB
  refine Ev.bind (anyO_ev (fun y hy => implLie_ev hg x y hx (hin y hy)) : Ev (fun k => anyO (impl_mayLink_1.f k t x.f0 x.f1 x.f2) l) (l.any (lieB t x))) ?_
  refine (Ev.now _).cast ?_
  rw [List.all_eq_not_any_not]
  simp

end Go.Proofs.Ytinjhichjnnajaa.Pure
