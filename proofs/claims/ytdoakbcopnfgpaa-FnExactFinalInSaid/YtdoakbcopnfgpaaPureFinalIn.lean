/-
The frames of the laws that compare the program with the reference: conversions, the two calls, and what is looked at after them.
Conditions: none beyond each lemma's own premises.
-/
import Derived.Test.YtdoakbcopnfgpaaConvI
import Derived.Test.YtdoakbcopnfgpaaConvB
import Derived.Test.YtdoakbcopnfgpaaConvL
import Derived.Test.YtdoakbcopnfgpaaFinA
import Derived.Test.YtdoakbcopnfgpaaQ0
import Derived.Test.YtdoakbcopnfgpaaQ31
import Derived.Test.YtdoakbcopnfgpaaQ35
import Derived.Test.YtdoakbcopnfgpaaQ37
namespace Go.Proofs.Ytdoakbcopnfgpaa.Pure
open Go.RowKit Go.Proofs.Ytdoakbcopnfgpaa.Q Go.Proofs.Ytdoakbcopnfgpaa.Gen Go.Proofs.YtdoakbcopnfgpaaW.PrintWords Go.Proofs.YtdoakbcopnfgpaaW.PrintLast
set_option linter.unusedVariables false
set_option linter.unusedSimpArgs false
set_option maxHeartbeats 2000000

theorem lawFinalIn (A : (List S49) → (List Int) → (List S53) → (List Int × Bool)) (hs : ∀ (x0 : List S49) (x1 : List Int) (x2 : List S53), x0.length ≤ 1048576 → x1.length ≤ 1048576 → x2.length ≤ 1048576 → (∀ x ∈ x1, (Lit.int .i64 x).wf = true) → Ev (fun k => spec_FinalIn.f k x0 x1 x2) (A x0 x1 x2)) (hi : ∀ (x0 : List S49) (x1 : List Int) (x2 : List S53), x0.length ≤ 1048576 → x1.length ≤ 1048576 → x2.length ≤ 1048576 → (∀ x ∈ x1, (Lit.int .i64 x).wf = true) → Ev (fun k => impl_FinalIn.f k x0 x1 x2) (A x0 x1 x2)) (hn : ∀ (x0 : List S49) (x1 : List Int) (x2 : List S53), x0.length ≤ 1048576 → x1.length ≤ 1048576 → x2.length ≤ 1048576 → (∀ x ∈ x1, (Lit.int .i64 x).wf = true) → (A x0 x1 x2).1.length ≤ 1048576) : ∀ (l0 : List S51) (l1 : List Int) (l2 : List S55), (l0.length ≤ 9223372036854775807) → (∀ x_ ∈ l0, ((Lit.int .i64 x_.f0).wf = true ∧ (Lit.int .i64 x_.f1).wf = true)) → (l1.length ≤ 9223372036854775807) → (∀ x_ ∈ l1, (Lit.int .i64 x_).wf = true) → (l2.length ≤ 9223372036854775807) → (∀ x_ ∈ l2, ((Lit.int .i64 x_.f0).wf = true ∧ (Lit.int .i64 x_.f1).wf = true ∧ (Lit.int .i64 x_.f2).wf = true)) → ∃ k, laws_FnExactFinalIn.f k l0 l1 l2 = some true := by
  intro l0 l1 l2 h0 w0 h1 w1 h2 w2
  refine Ev.rounds ?_
  unfold laws_FnExactFinalIn.f
  by_cases c1 : (l1.length : Int) > 1048576
  · simp only [if_pos c1]; exact Ev.now _
  simp only [if_neg c1]
  rw [szBlockS_eq l0 (1048576) (by omega) (by omega) h0]
  simp only [Option.bind_some]
  by_cases c0 : (l0.length : Int) ≤ 1048576
  rotate_left
  · simp only [if_neg c0, show (-1 : Int) < 0 by decide, if_true]; exact Ev.now _
  have d0 : ¬ (1048576 - (l0.length : Int) < 0) := by omega
  simp only [if_pos c0, if_neg d0]
  rw [szLinkS_eq l2 (1048576 - (l0.length : Int)) (by omega) (by omega) h2]
  simp only [Option.bind_some]
  by_cases c2 : (l2.length : Int) ≤ 1048576 - (l0.length : Int)
  rotate_left
  · simp only [if_neg c2, show (-1 : Int) < 0 by decide, if_true]; exact Ev.now _
  have d2 : ¬ (1048576 - (l0.length : Int) - (l2.length : Int) < 0) := by omega
  simp only [if_pos c2, if_neg d2]
  have n0 : l0.length ≤ 1048576 := by omega
  have n1 : l1.length ≤ 1048576 := by omega
  have n2 : l2.length ≤ 1048576 := by omega
  have m0 : (l0.map fun x => (⟨x.f0, x.f1⟩ : S49)).length ≤ 1048576 := by simp only [List.length_map]; omega
  have m2 : (l2.map fun x => (⟨x.f0, x.f1, x.f2⟩ : S53)).length ≤ 1048576 := by simp only [List.length_map]; omega
  refine Ev.bind (toBlockS_ev l0 n0) ?_
  refine Ev.bind (toIntS_ev l1 n1) ?_
  refine Ev.bind (toLinkS_ev l2 n2) ?_
  refine Ev.bind (hs (l0.map fun x => (⟨x.f0, x.f1⟩ : S49)) l1 (l2.map fun x => (⟨x.f0, x.f1, x.f2⟩ : S53)) m0 n1 m2 w1 ) ?_
  refine Ev.bind (toBlockS_ev l0 n0) ?_
  refine Ev.bind (toIntS_ev l1 n1) ?_
  refine Ev.bind (toLinkS_ev l2 n2) ?_
  refine Ev.bind (hi (l0.map fun x => (⟨x.f0, x.f1⟩ : S49)) l1 (l2.map fun x => (⟨x.f0, x.f1, x.f2⟩ : S53)) m0 n1 m2 w1 ) ?_
  have nr := hn (l0.map fun x => (⟨x.f0, x.f1⟩ : S49)) l1 (l2.map fun x => (⟨x.f0, x.f1, x.f2⟩ : S53)) m0 n1 m2 w1 
  refine Ev.bind (eqIntS_ev _ (by omega)) ?_
  simp only [bne_self_eq_false, eq_self, Bool.false_eq_true, if_true, if_false]
  refine Ev.step (fun k => rfl) ?_
  simp only [laws_FnExactFinalIn.j0, Bool.false_eq_true, if_false]
  refine Ev.bind (toBlockS_ev l0 n0) ?_
  refine Ev.bind (eqBlockS_ev _ (by have := m0; omega)) ?_
  simp only [if_true]
  refine Ev.bind (toIntS_ev l1 n1) ?_
  refine Ev.bind (eqIntS_ev _ (by have := n1; omega)) ?_
  simp only [if_true]
  refine Ev.bind (toLinkS_ev l2 n2) ?_
  refine Ev.bind (eqLinkS_ev _ (by have := m2; omega)) ?_
  simp only [if_true]
  refine Ev.bind (markBlockS_ev _ ((1 : Int)) (by have := m0; omega) (by omega) (by have := m0; omega)) ?_
  refine Ev.bind (markIntS_ev _ ((1 : Int) + 2 * ((l0.map fun x => (⟨x.f0, x.f1⟩ : S49)).length : Int)) (by have := n1; omega) (by omega) (by have := n1; omega)) ?_
  refine Ev.bind (markLinkS_ev _ ((1 : Int) + 2 * ((l0.map fun x => (⟨x.f0, x.f1⟩ : S49)).length : Int) + 1 * (l1.length : Int)) (by have := m2; omega) (by omega) (by have := m2; omega)) ?_
  refine Ev.ite_neg (by show ¬ (1 : Int) + 2 * ((l0.map fun x => (⟨x.f0, x.f1⟩ : S49)).length : Int) + 1 * (l1.length : Int) + 3 * ((l2.map fun x => (⟨x.f0, x.f1, x.f2⟩ : S53)).length : Int) < 0; omega) ?_
  refine Ev.bind (eqIntS_ev _ (by omega)) ?_
  simp only [bne_self_eq_false, eq_self, Bool.false_eq_true, if_true, if_false]
  refine Ev.step (fun k => rfl) ?_
  simp only [laws_FnExactFinalIn.j1, Bool.false_eq_true, if_false]
  refine Ev.bind (markIntS_ev _ 1 (by omega) (by omega) (by omega)) ?_
  refine Ev.bind (heldIntS_ev _ 1 (by omega) (by omega) (by omega)) ?_
  refine Ev.ite_neg (by omega) ?_
  refine Ev.ite_pos rfl ?_
  refine Ev.bind (toBlockS_ev l0 n0) ?_
  refine Ev.bind (toIntS_ev l1 n1) ?_
  refine Ev.bind (toLinkS_ev l2 n2) ?_
  refine Ev.bind (hi (l0.map fun x => (⟨x.f0, x.f1⟩ : S49)) l1 (l2.map fun x => (⟨x.f0, x.f1, x.f2⟩ : S53)) m0 n1 m2 w1 ) ?_
  refine Ev.bind (eqIntS_ev _ (by omega)) ?_
  simp only [bne_self_eq_false, eq_self, Bool.false_eq_true, if_true, if_false]
  refine Ev.step (fun k => rfl) ?_
  simp only [laws_FnExactFinalIn.j2, Bool.false_eq_true, if_false]
  refine Ev.bind (heldIntS_ev _ 1 (by omega) (by omega) (by omega)) ?_
  refine Ev.ite_neg (by omega) ?_
  refine Ev.ite_pos rfl ?_
  exact Ev.now _
theorem FnExactFinalIn : ∀ (l0 : List S51) (l1 : List Int) (l2 : List S55), (l0.length ≤ 9223372036854775807) → (∀ x_ ∈ l0, ((Lit.int .i64 x_.f0).wf = true ∧ (Lit.int .i64 x_.f1).wf = true)) → (l1.length ≤ 9223372036854775807) → (∀ x_ ∈ l1, (Lit.int .i64 x_).wf = true) → (l2.length ≤ 9223372036854775807) → (∀ x_ ∈ l2, ((Lit.int .i64 x_.f0).wf = true ∧ (Lit.int .i64 x_.f1).wf = true ∧ (Lit.int .i64 x_.f2).wf = true)) → ∃ k, laws_FnExactFinalIn.f k l0 l1 l2 = some true :=
  lawFinalIn finalA (fun x0 x1 x2 h0 h1 h2 _ => specFinalA_ev x0 x1 x2 h0 h1 h2) (fun x0 x1 x2 h0 h1 h2 _ => implFinalA_ev x0 x1 x2 h1) (fun x0 x1 x2 h0 h1 h2 _ => finalA_length x0 x1 x2)
end Go.Proofs.Ytdoakbcopnfgpaa.Pure
