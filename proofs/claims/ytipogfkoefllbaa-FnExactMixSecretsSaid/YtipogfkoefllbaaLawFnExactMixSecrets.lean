/-
The Go function FnExactMixSecrets of the laws returns true for every input and leaves its arguments as they were.
Conditions: none.
-/
-- Written by wip/xprint.py, a program of this session over the kit's printer. Not trusted: Lean checks it.
import Derived.Test.YtipogfkoefllbaaRows
import Derived.Test.YtipogfkoefllbaaQ4
import Derived.Test.YtipogfkoefllbaaOp
import Derived.Test.YtipogfkoefllbaaPureA
import Derived.WalkKit
import Derived.ProofKit
import Derived.OpenShut
import Derived.ShutString
import Derived.ChangeOld
import Derived.Below
import Derived.SizedLaws
namespace Go.Proofs.Ytipogfkoefllbaa.fnExactMixSecrets
open Go.ChangeShapes Go.WideShapes Go.ChangeAt Go.RowKit
open Go.ChangeMaps (open_string shut_string)
set_option linter.unusedVariables false
theorem own : ownKnob Try.prog.godebug = none := by kernel_rfl
theorem laidOut : laidOutB Try.prog = true := by kernel_rfl
set_option maxRecDepth 100000 in
theorem lifted (os : Os) (started : os.Started) (H : Type) (enc : TypeId × Value → H) :
    ReturnsInHanded {} Try.checked os 6 .any (Rows.fnExactMixSecretsSpec.pre6 enc Try.prog Try.f6 Rows.fnExactMixSecretsRow.domain false) (Rows.fnExactMixSecretsSpec.post enc Try.prog Try.f6 false true false false) := by
  refine returnsInHanded_of_change_sized (C := Try.checked) own started (by kernel_rfl) Try.func6
    (ChangeSpec.witness6 (enc := enc) (C := Try.checked) false ⟨#[], #[.slice none 0 0], []⟩ 8 (by kernel_rfl) (by kernel_rfl) (by kernel_rfl) (by kernel_rfl)) ?_
  intro W base args ds gs before hval0 hW hcnd hsz0 _
  have hval : ∀ (j : Nat) t v, Try.f6.params[j]? = some t → args[j]? = some v → Value.okWide Try.prog W .any base t v := hval0
  have hW' := hW
  obtain ⟨p, q, hA0, hV, rfl, hfz, hnd⟩ := hW
  have hA : DataW.TrodAll enc Try.prog W 0 (fun _ => true) true Try.f6.params.toList args.toList ds p := hA0
  rw [Try.params6] at hA hval
  obtain ⟨v0, vs0, d0, ds0, p0, q0, hargs, rfl, rfl, h0, r0⟩ := trodAll_cons hA
  obtain ⟨rfl, rfl, rfl⟩ := trodAll_nil r0
  obtain rfl : args = #[v0] := by cases args; simp_all
  obtain ⟨rfl, rfl⟩ := trodVars_none hV
  have k0 := h0
  have lt0 : ∀ x ∈ p0, x.block < W.heap.size := by obtain ⟨m, hm⟩ := k0; exact DataW.trod_lt m _ _ _ hm
  obtain ⟨a0, len0, cap0, rfl⟩ := okWide_slice Try.underlying34 (hval 0 34 v0 rfl rfl)
  obtain ⟨fuel0, hf0⟩ := h0
  obtain ⟨X0, KX0, QX0⟩ := Opens.O34 H enc W fuel0 [.slice a0 len0 cap0] _ (by simpa [Value.cells] using hf0)
  obtain ⟨A0, c0, e0, hc0, hr0⟩ := KX0
  obtain ⟨rfl, rfl, rfl⟩ : a0 = A0 ∧ len0 = X0.length ∧ cap0 = c0 := by simpa using e0
  clear hA0 hval0 hsz0
  obtain ⟨k, h⟩ := Pure.FnExactMixSecrets X0 (Go.Proofs.YtipogfkoefllbaaW.PrintWords.Kd.C_max hr0) QX0
  refine (Q.laws_FnExactMixSecrets.calls (k := k) (r := true) (w := W) (hr0 := hr0) (hc0 := hc0) (h := h)).mono fun e W' he => ?_
  obtain ⟨rfl, bel⟩ := he
  exact ⟨_, rfl, _, _, _, [], _, [], hW', trodAll_mk1 (shut_bool Try.underlying4 _), (trodAll_cons_mk (Below.trod laidOut (by kernel_rfl) (of_decide_eq_true (by kernel_rfl)) k0 bel lt0) trodAll_mk0), rfl, bel.frame _, fun h => by cases h⟩
theorem over : Rows.fnExactMixSecretsRow.holds Try.pinned (OpenSpec.ofChange Rows.fnExactMixSecretsSpec) :=
  OpenClaim.holds_of_wide 6 Try.f6 rfl rfl rfl rfl rfl rfl rfl ⟨rfl, rfl, rfl, rfl, rfl⟩ rfl rfl rfl rfl rfl (by kernel_rfl) Try.func6 (by kernel_rfl)
    (of_decide_eq_true (by kernel_rfl)) (by unfold Func.isWrapper; first | (rw [if_pos (by decide +kernel)]; kernel_rfl) | (rw [if_neg (by decide +kernel)]; exact ⟨rfl, rfl⟩))
    (fun os started H enc _ => lifted os started H enc)
theorem proved : Rows.FnExactMixSecretsSaid := over
#print axioms proved
end Go.Proofs.Ytipogfkoefllbaa.fnExactMixSecrets
namespace Go.Proofs.Ytipogfkoefllbaa
/-- The row, under a short name, for the claim. -/
theorem fnExactMixSecrets_holds : Rows.FnExactMixSecretsSaid := fnExactMixSecrets.proved
end Go.Proofs.Ytipogfkoefllbaa
