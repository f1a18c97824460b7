-- Written by wip/xprint.py, a program of this session over the kit's printer. Not trusted: Lean checks it.
import Derived.Test.YtipogfkoefllbaaOpens
import Derived.KernelRfl
import Derived.Test.YtipogfkoefllbaaQ0
namespace Go.Proofs.Ytipogfkoefllbaa.Opens
open Go.RowKit Go.Proofs.YtipogfkoefllbaaW.PrintWords Go.Proofs.Ytipogfkoefllbaa.Q
set_option linter.unusedVariables false
theorem O29 : Opens Try.prog 29 k29 (fun x : S29 => ((Lit.int .i64 x.f0).wf = true ∧ (Lit.int .i64 x.f1).wf = true ∧ (Lit.int .i64 x.f2).wf = true)) := Opens.iso (Opens.struct3 Try.underlying29 (Opens.int .i64 Try.underlying3) (Opens.int .i64 Try.underlying3) (Opens.int .i64 Try.underlying3) rfl rfl rfl (by kernel_rfl) (by kernel_rfl) (by kernel_rfl) (by kernel_rfl)) (fun x : S29 => (x.f0, x.f1, x.f2)) (fun p => ⟨p.1, p.2.1, p.2.2⟩) (fun _ => rfl)
theorem O34 : Opens Try.prog 34 (Kd.slice 3 (Kd.int .i64)) (fun x : List Int => ∀ x_ ∈ x, (Lit.int .i64 x_).wf = true) := Opens.slice Try.underlying34 (Opens.int .i64 Try.underlying3) (by kernel_rfl)
theorem O76 : Opens Try.prog 76 k76 (fun x : S76 => ((Lit.int .i64 x.f0).wf = true ∧ (Lit.int .i64 x.f1).wf = true)) := Opens.iso (Opens.struct2 Try.underlying76 (Opens.int .i64 Try.underlying3) (Opens.int .i64 Try.underlying3) rfl rfl (by kernel_rfl) (by kernel_rfl) (by kernel_rfl)) (fun x : S76 => (x.f0, x.f1)) (fun p => ⟨p.1, p.2⟩) (fun _ => rfl)
theorem O39 : Opens Try.prog 39 (Kd.slice 76 k76) (fun x : List (S76) => ∀ x_ ∈ x, ((Lit.int .i64 x_.f0).wf = true ∧ (Lit.int .i64 x_.f1).wf = true)) := Opens.slice Try.underlying39 O76 (by kernel_rfl)
end Go.Proofs.Ytipogfkoefllbaa.Opens
