/-
The Go function FnExactFinalIn of the laws returns true for every input and leaves its arguments as they were.
Conditions: none.
-/
import Derived.Test.YtdoakbcopnfgpaaWords
import Derived.Test.YtdoakbcopnfgpaaRows
import Derived.Test.YtdoakbcopnfgpaaQ37
import Derived.Test.YtdoakbcopnfgpaaOp
import Derived.Test.YtdoakbcopnfgpaaPureFinalIn
import Derived.WalkKit
import Derived.ProofKit
import Derived.OpenShut
import Derived.ShutString
import Derived.ChangeOld
import Derived.Below
import Derived.SizedLaws
namespace Go.Proofs.Ytdoakbcopnfgpaa.fnExactFinalIn
open Go.ChangeShapes Go.WideShapes Go.ChangeAt Go.RowKit
open Go.ChangeMaps (open_string shut_string)
set_option linter.unusedVariables false
theorem own : ownKnob Try.prog.godebug = none := by kernel_rfl
theorem laidOut : laidOutB Try.prog = true := by kernel_rfl
set_option maxRecDepth 100000 in
theorem lifted (os : Os) (started : os.Started) (H : Type) (enc : TypeId × Value → H) :
    ReturnsInHanded {} Try.checked os 4 .any (Rows.fnExactFinalInSpec.pre6 enc Try.prog Try.f4 Rows.fnExactFinalInRow.domain false) (Rows.fnExactFinalInSpec.post enc Try.prog Try.f4 false true false false) := by
  refine returnsInHanded_of_change_sized (C := Try.checked) own started (by kernel_rfl) Try.func4
    (ChangeSpec.witness6 (enc := enc) (C := Try.checked) false ⟨#[], #[.slice none 0 0, .slice none 0 0, .slice none 0 0], []⟩ 8 (by kernel_rfl) (by kernel_rfl) (by kernel_rfl) (by kernel_rfl)) ?_
  intro W base args ds gs before hval0 hW hcnd hsz0 _
  have hval : ∀ (j : Nat) t v, Try.f4.params[j]? = some t → args[j]? = some v → Value.okWide Try.prog W .any base t v := hval0
  have hW' := hW
  obtain ⟨p, q, hA0, hV, rfl, hfz, hnd⟩ := hW
  have hA : DataW.TrodAll enc Try.prog W 0 (fun _ => true) true Try.f4.params.toList args.toList ds p := hA0
  rw [Try.params4] at hA hval
  obtain ⟨v0, vs0, d0, ds0, p0, q0, hargs, rfl, rfl, h0, r0⟩ := trodAll_cons hA
  obtain ⟨v1, vs1, d1, ds1, p1, q1, rfl, rfl, rfl, h1, r1⟩ := trodAll_cons r0
  obtain ⟨v2, vs2, d2, ds2, p2, q2, rfl, rfl, rfl, h2, r2⟩ := trodAll_cons r1
  obtain ⟨rfl, rfl, rfl⟩ := trodAll_nil r2
  obtain rfl : args = #[v0, v1, v2] := by cases args; simp_all
  obtain ⟨rfl, rfl⟩ := trodVars_none hV
  have k0 := h0
  have lt0 : ∀ x ∈ p0, x.block < W.heap.size := by obtain ⟨m, hm⟩ := k0; exact DataW.trod_lt m _ _ _ hm
  obtain ⟨a0, len0, cap0, rfl⟩ := okWide_slice Try.underlying22 (hval 0 22 v0 rfl rfl)
  obtain ⟨fuel0, hf0⟩ := h0
  obtain ⟨X0, KX0, QX0⟩ := Opens.O22 H enc W fuel0 [.slice a0 len0 cap0] _ (by simpa [Value.cells] using hf0)
  obtain ⟨A0, c0, e0, hc0, hr0⟩ := KX0
  obtain ⟨rfl, rfl, rfl⟩ : a0 = A0 ∧ len0 = X0.length ∧ cap0 = c0 := by simpa using e0
  have k1 := h1
  have lt1 : ∀ x ∈ p1, x.block < W.heap.size := by obtain ⟨m, hm⟩ := k1; exact DataW.trod_lt m _ _ _ hm
  obtain ⟨a1, len1, cap1, rfl⟩ := okWide_slice Try.underlying23 (hval 1 23 v1 rfl rfl)
  obtain ⟨fuel1, hf1⟩ := h1
  obtain ⟨X1, KX1, QX1⟩ := Opens.O23 H enc W fuel1 [.slice a1 len1 cap1] _ (by simpa [Value.cells] using hf1)
  obtain ⟨A1, c1, e1, hc1, hr1⟩ := KX1
  obtain ⟨rfl, rfl, rfl⟩ : a1 = A1 ∧ len1 = X1.length ∧ cap1 = c1 := by simpa using e1
  have k2 := h2
  have lt2 : ∀ x ∈ p2, x.block < W.heap.size := by obtain ⟨m, hm⟩ := k2; exact DataW.trod_lt m _ _ _ hm
  obtain ⟨a2, len2, cap2, rfl⟩ := okWide_slice Try.underlying24 (hval 2 24 v2 rfl rfl)
  obtain ⟨fuel2, hf2⟩ := h2
  obtain ⟨X2, KX2, QX2⟩ := Opens.O24 H enc W fuel2 [.slice a2 len2 cap2] _ (by simpa [Value.cells] using hf2)
  obtain ⟨A2, c2, e2, hc2, hr2⟩ := KX2
  obtain ⟨rfl, rfl, rfl⟩ : a2 = A2 ∧ len2 = X2.length ∧ cap2 = c2 := by simpa using e2
  clear hA0 hval0 hsz0
  obtain ⟨k, h⟩ := Pure.FnExactFinalIn X0 X1 X2 (Go.Proofs.YtdoakbcopnfgpaaW.PrintWords.Kd.C_max hr0) QX0 (Go.Proofs.YtdoakbcopnfgpaaW.PrintWords.Kd.C_max hr1) QX1 (Go.Proofs.YtdoakbcopnfgpaaW.PrintWords.Kd.C_max hr2) QX2
  refine (Q.laws_FnExactFinalIn.calls (k := k) (r := true) (w := W) (hr_ := rfl) (hr0 := hr0) (hc0 := hc0) (hr1 := hr1) (hc1 := hc1) (hr2 := hr2) (hc2 := hc2) (h := h)).mono fun e W' he => ?_
  obtain ⟨rfl, bel⟩ := he
  exact ⟨_, rfl, _, _, _, [], _, [], hW', trodAll_mk1 (shut_bool Try.underlying4 _), (trodAll_cons_mk (Below.trod laidOut (by kernel_rfl) (of_decide_eq_true (by kernel_rfl)) k0 bel lt0) (trodAll_cons_mk (Below.trod laidOut (by kernel_rfl) (of_decide_eq_true (by kernel_rfl)) k1 bel lt1) (trodAll_cons_mk (Below.trod laidOut (by kernel_rfl) (of_decide_eq_true (by kernel_rfl)) k2 bel lt2) trodAll_mk0))), rfl, bel.frame _, fun h => by cases h⟩
theorem over : Rows.fnExactFinalInRow.holds Try.pinned (OpenSpec.ofChange Rows.fnExactFinalInSpec) :=
  OpenClaim.holds_of_wide 4 Try.f4 rfl rfl rfl rfl rfl rfl rfl ⟨rfl, rfl, rfl, rfl, rfl⟩ rfl rfl rfl rfl rfl (by kernel_rfl) Try.func4 (by kernel_rfl)
    (of_decide_eq_true (by kernel_rfl)) (by unfold Func.isWrapper; first | (rw [if_pos (by decide +kernel)]; kernel_rfl) | (rw [if_neg (by decide +kernel)]; exact ⟨rfl, rfl⟩))
    (fun os started H enc _ => lifted os started H enc)
theorem proved : Rows.FnExactFinalInSaid := over
#print axioms proved
end Go.Proofs.Ytdoakbcopnfgpaa.fnExactFinalIn
namespace Go.Proofs.Ytdoakbcopnfgpaa
/-- The row, under a short name, for the claim. -/
theorem fnExactFinalIn_holds : Rows.FnExactFinalInSaid := fnExactFinalIn.proved
end Go.Proofs.Ytdoakbcopnfgpaa
