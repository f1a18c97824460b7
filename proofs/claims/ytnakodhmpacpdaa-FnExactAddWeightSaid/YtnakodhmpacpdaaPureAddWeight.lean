/-
The frames of the laws that compare the program with the reference: conversions, the two calls, and what is looked at after them.
Conditions: none beyond each lemma's own premises.
-/
import Derived.Test.YtnakodhmpacpdaaConvI
import Derived.Test.YtnakodhmpacpdaaConvB
import Derived.Test.YtnakodhmpacpdaaAddW
import Derived.Test.YtnakodhmpacpdaaQ0
import Derived.Test.YtnakodhmpacpdaaQ26
import Derived.Test.YtnakodhmpacpdaaQ27
import Derived.Test.YtnakodhmpacpdaaQ28
namespace Go.Proofs.Ytnakodhmpacpdaa.Pure
open Go.RowKit Go.Proofs.Ytnakodhmpacpdaa.Q Go.Proofs.Ytnakodhmpacpdaa.Gen Go.Proofs.YtnakodhmpacpdaaW.PrintWords Go.Proofs.YtnakodhmpacpdaaW.PrintLast
set_option linter.unusedVariables false
set_option linter.unusedSimpArgs false
set_option maxHeartbeats 2000000

theorem lawAddWeight (A : (List S55) → (List Int) → (Int) → (Int) → (List Int × Bool)) (hs : ∀ (x0 : List S55) (x1 : List Int) (x2 : Int) (x3 : Int), x0.length ≤ 1048576 → x1.length ≤ 1048576 → (∀ x ∈ x1, (Lit.int .i64 x).wf = true) → (Lit.int .i64 x2).wf = true → (Lit.int .i64 x3).wf = true → Ev (fun k => spec_AddWeight.f k x0 x1 x2 x3) (A x0 x1 x2 x3)) (hi : ∀ (x0 : List S55) (x1 : List Int) (x2 : Int) (x3 : Int), x0.length ≤ 1048576 → x1.length ≤ 1048576 → (∀ x ∈ x1, (Lit.int .i64 x).wf = true) → (Lit.int .i64 x2).wf = true → (Lit.int .i64 x3).wf = true → Ev (fun k => impl_AddWeight.f k x0 x1 x2 x3) (A x0 x1 x2 x3)) (hn : ∀ (x0 : List S55) (x1 : List Int) (x2 : Int) (x3 : Int), x0.length ≤ 1048576 → x1.length ≤ 1048576 → (∀ x ∈ x1, (Lit.int .i64 x).wf = true) → (Lit.int .i64 x2).wf = true → (Lit.int .i64 x3).wf = true → (A x0 x1 x2 x3).1.length ≤ 1048576) : ∀ (l0 : List S57) (l1 : List Int) (a2 : Int) (a3 : Int), (l0.length ≤ 9223372036854775807) → (∀ x_ ∈ l0, ((Lit.int .i64 x_.f0).wf = true ∧ (Lit.int .i64 x_.f1).wf = true)) → (l1.length ≤ 9223372036854775807) → (∀ x_ ∈ l1, (Lit.int .i64 x_).wf = true) → ((Lit.int .i64 a2).wf = true) → ((Lit.int .i64 a3).wf = true) → ∃ k, laws_FnExactAddWeight.f k l0 l1 a2 a3 = some true := by
  intro l0 l1 a2 a3 h0 w0 h1 w1 h2 h3
  refine Ev.rounds ?_
  unfold laws_FnExactAddWeight.f
  by_cases c1 : (l1.length : Int) > 1048576
  · simp only [if_pos c1]; exact Ev.now _
  simp only [if_neg c1]
  rw [szBlockS_eq l0 (1048576) (by omega) (by omega) h0]
  simp only [Option.bind_some]
  by_cases c0 : (l0.length : Int) ≤ 1048576
  rotate_left
  · simp only [if_neg c0, show (-1 : Int) < 0 by decide, if_true]; exact Ev.now _
  have d0 : ¬ (1048576 - (l0.length : Int) < 0) := by omega
  simp only [if_pos c0, if_neg d0]
  have n0 : l0.length ≤ 1048576 := by omega
  have n1 : l1.length ≤ 1048576 := by omega
  have m0 : (l0.map fun x => (⟨x.f0, x.f1⟩ : S55)).length ≤ 1048576 := by simp only [List.length_map]; omega
  refine Ev.bind (toBlockS_ev l0 n0) ?_
  refine Ev.bind (toIntS_ev l1 n1) ?_
  refine Ev.bind (hs (l0.map fun x => (⟨x.f0, x.f1⟩ : S55)) l1 a2 a3 m0 n1 w1 h2 h3) ?_
  refine Ev.bind (toBlockS_ev l0 n0) ?_
  refine Ev.bind (toIntS_ev l1 n1) ?_
  refine Ev.bind (hi (l0.map fun x => (⟨x.f0, x.f1⟩ : S55)) l1 a2 a3 m0 n1 w1 h2 h3) ?_
  have nr := hn (l0.map fun x => (⟨x.f0, x.f1⟩ : S55)) l1 a2 a3 m0 n1 w1 h2 h3
  refine Ev.bind (eqIntS_ev _ (by omega)) ?_
  simp only [bne_self_eq_false, eq_self, Bool.false_eq_true, if_true, if_false]
  refine Ev.step (fun k => rfl) ?_
  simp only [laws_FnExactAddWeight.j0, Bool.false_eq_true, if_false]
  refine Ev.bind (toBlockS_ev l0 n0) ?_
  refine Ev.bind (eqBlockS_ev _ (by have := m0; omega)) ?_
  simp only [if_true]
  refine Ev.bind (toIntS_ev l1 n1) ?_
  refine Ev.bind (eqIntS_ev _ (by have := n1; omega)) ?_
  simp only [if_true]
  refine Ev.bind (markBlockS_ev _ ((1 : Int)) (by have := m0; omega) (by omega) (by have := m0; omega)) ?_
  refine Ev.bind (markIntS_ev _ ((1 : Int) + 2 * ((l0.map fun x => (⟨x.f0, x.f1⟩ : S55)).length : Int)) (by have := n1; omega) (by omega) (by have := n1; omega)) ?_
  refine Ev.ite_neg (by show ¬ (1 : Int) + 2 * ((l0.map fun x => (⟨x.f0, x.f1⟩ : S55)).length : Int) + 1 * (l1.length : Int) < 0; omega) ?_
  refine Ev.bind (eqIntS_ev _ (by omega)) ?_
  simp only [bne_self_eq_false, eq_self, Bool.false_eq_true, if_true, if_false]
  refine Ev.step (fun k => rfl) ?_
  simp only [laws_FnExactAddWeight.j1, Bool.false_eq_true, if_false]
  refine Ev.bind (markIntS_ev _ 1 (by omega) (by omega) (by omega)) ?_
  refine Ev.bind (heldIntS_ev _ 1 (by omega) (by omega) (by omega)) ?_
  refine Ev.ite_neg (by omega) ?_
  refine Ev.ite_pos rfl ?_
  refine Ev.bind (toBlockS_ev l0 n0) ?_
  refine Ev.bind (toIntS_ev l1 n1) ?_
  refine Ev.bind (hi (l0.map fun x => (⟨x.f0, x.f1⟩ : S55)) l1 a2 a3 m0 n1 w1 h2 h3) ?_
  refine Ev.bind (eqIntS_ev _ (by omega)) ?_
  simp only [bne_self_eq_false, eq_self, Bool.false_eq_true, if_true, if_false]
  refine Ev.step (fun k => rfl) ?_
  simp only [laws_FnExactAddWeight.j2, Bool.false_eq_true, if_false]
  refine Ev.bind (heldIntS_ev _ 1 (by omega) (by omega) (by omega)) ?_
  refine Ev.ite_neg (by omega) ?_
  refine Ev.ite_pos rfl ?_
  exact Ev.now _
theorem FnExactAddWeight : ∀ (l0 : List S57) (l1 : List Int) (a2 : Int) (a3 : Int), (l0.length ≤ 9223372036854775807) → (∀ x_ ∈ l0, ((Lit.int .i64 x_.f0).wf = true ∧ (Lit.int .i64 x_.f1).wf = true)) → (l1.length ≤ 9223372036854775807) → (∀ x_ ∈ l1, (Lit.int .i64 x_).wf = true) → ((Lit.int .i64 a2).wf = true) → ((Lit.int .i64 a3).wf = true) → ∃ k, laws_FnExactAddWeight.f k l0 l1 a2 a3 = some true :=
  lawAddWeight addW (fun x0 x1 x2 x3 h0 h1 w _ _ => specAdd_ev x0 x1 x2 x3 h0 h1 (fun x hx => wf_int (w x hx))) (fun x0 x1 x2 x3 h0 h1 w _ _ => implAdd_ev x0 x1 x2 x3 (fun x hx => wf_int (w x hx))) (fun x0 x1 x2 x3 h0 h1 w _ _ => addW_length x0 x1 x2 x3 h1)
end Go.Proofs.Ytnakodhmpacpdaa.Pure
