import Derived.Test.YtinjhichjnnajaaWords
import Derived.Test.YtinjhichjnnajaaOpens
import Derived.KernelRfl
import Derived.Test.YtinjhichjnnajaaQ0
namespace Go.Proofs.Ytinjhichjnnajaa.Opens
open Go.RowKit Go.Proofs.YtinjhichjnnajaaW.PrintWords Go.Proofs.Ytinjhichjnnajaa.Q
set_option linter.unusedVariables false
theorem O72 : Opens Try.prog 72 k72 (fun x : S72 => ((Lit.int .i64 x.f0).wf = true ∧ (Lit.int .i64 x.f1).wf = true)) := Opens.iso (Opens.struct2 Try.underlying72 (Opens.int .i64 Try.underlying3) (Opens.int .i64 Try.underlying3) rfl rfl (by kernel_rfl) (by kernel_rfl) (by kernel_rfl)) (fun x : S72 => (x.f0, x.f1)) (fun p => ⟨p.1, p.2⟩) (fun _ => rfl)
theorem O22 : Opens Try.prog 22 (Kd.slice 72 k72) (fun x : List (S72) => ∀ x_ ∈ x, ((Lit.int .i64 x_.f0).wf = true ∧ (Lit.int .i64 x_.f1).wf = true)) := Opens.slice Try.underlying22 O72 (by kernel_rfl)
theorem O34 : Opens Try.prog 34 (Kd.slice 3 (Kd.int .i64)) (fun x : List Int => ∀ x_ ∈ x, (Lit.int .i64 x_).wf = true) := Opens.slice Try.underlying34 (Opens.int .i64 Try.underlying3) (by kernel_rfl)
theorem O24 : Opens Try.prog 24 k24 (fun x : S24 => ((Lit.int .i64 x.f0).wf = true ∧ (Lit.int .i64 x.f1).wf = true ∧ (Lit.int .i64 x.f2).wf = true)) := Opens.iso (Opens.struct3 Try.underlying24 (Opens.int .i64 Try.underlying3) (Opens.int .i64 Try.underlying3) (Opens.int .i64 Try.underlying3) rfl rfl rfl (by kernel_rfl) (by kernel_rfl) (by kernel_rfl) (by kernel_rfl)) (fun x : S24 => (x.f0, x.f1, x.f2)) (fun p => ⟨p.1, p.2.1, p.2.2⟩) (fun _ => rfl)
theorem O35 : Opens Try.prog 35 (Kd.slice 24 k24) (fun x : List (S24) => ∀ x_ ∈ x, ((Lit.int .i64 x_.f0).wf = true ∧ (Lit.int .i64 x_.f1).wf = true ∧ (Lit.int .i64 x_.f2).wf = true)) := Opens.slice Try.underlying35 O24 (by kernel_rfl)
end Go.Proofs.Ytinjhichjnnajaa.Opens
