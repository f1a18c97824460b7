-- Written by wip/xprint.py, a program of this session over the kit's printer. Not trusted: Lean checks it.
import Derived.Test.YtnakodhmpacpdaaOpens
import Derived.KernelRfl
import Derived.Test.YtnakodhmpacpdaaQ0
namespace Go.Proofs.Ytnakodhmpacpdaa.Opens
open Go.RowKit Go.Proofs.YtnakodhmpacpdaaW.PrintWords Go.Proofs.Ytnakodhmpacpdaa.Q
set_option linter.unusedVariables false
theorem O57 : Opens Try.prog 57 k57 (fun x : S57 => ((Lit.int .i64 x.f0).wf = true ∧ (Lit.int .i64 x.f1).wf = true)) := Opens.iso (Opens.struct2 Try.underlying57 (Opens.int .i64 Try.underlying3) (Opens.int .i64 Try.underlying3) rfl rfl (by kernel_rfl) (by kernel_rfl) (by kernel_rfl)) (fun x : S57 => (x.f0, x.f1)) (fun p => ⟨p.1, p.2⟩) (fun _ => rfl)
theorem O22 : Opens Try.prog 22 (Kd.slice 57 k57) (fun x : List (S57) => ∀ x_ ∈ x, ((Lit.int .i64 x_.f0).wf = true ∧ (Lit.int .i64 x_.f1).wf = true)) := Opens.slice Try.underlying22 O57 (by kernel_rfl)
theorem O30 : Opens Try.prog 30 (Kd.slice 3 (Kd.int .i64)) (fun x : List Int => ∀ x_ ∈ x, (Lit.int .i64 x_).wf = true) := Opens.slice Try.underlying30 (Opens.int .i64 Try.underlying3) (by kernel_rfl)
end Go.Proofs.Ytnakodhmpacpdaa.Opens
