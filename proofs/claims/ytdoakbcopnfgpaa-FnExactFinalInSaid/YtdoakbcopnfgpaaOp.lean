import Derived.Test.YtdoakbcopnfgpaaWords
import Derived.Test.YtdoakbcopnfgpaaOpens
import Derived.KernelRfl
import Derived.Test.YtdoakbcopnfgpaaQ0
namespace Go.Proofs.Ytdoakbcopnfgpaa.Opens
open Go.RowKit Go.Proofs.YtdoakbcopnfgpaaW.PrintWords Go.Proofs.Ytdoakbcopnfgpaa.Q
set_option linter.unusedVariables false
theorem O51 : Opens Try.prog 51 k51 (fun x : S51 => ((Lit.int .i64 x.f0).wf = true ∧ (Lit.int .i64 x.f1).wf = true)) := Opens.iso (Opens.struct2 Try.underlying51 (Opens.int .i64 Try.underlying3) (Opens.int .i64 Try.underlying3) rfl rfl (by kernel_rfl) (by kernel_rfl) (by kernel_rfl)) (fun x : S51 => (x.f0, x.f1)) (fun p => ⟨p.1, p.2⟩) (fun _ => rfl)
theorem O22 : Opens Try.prog 22 (Kd.slice 51 k51) (fun x : List (S51) => ∀ x_ ∈ x, ((Lit.int .i64 x_.f0).wf = true ∧ (Lit.int .i64 x_.f1).wf = true)) := Opens.slice Try.underlying22 O51 (by kernel_rfl)
theorem O23 : Opens Try.prog 23 (Kd.slice 3 (Kd.int .i64)) (fun x : List Int => ∀ x_ ∈ x, (Lit.int .i64 x_).wf = true) := Opens.slice Try.underlying23 (Opens.int .i64 Try.underlying3) (by kernel_rfl)
theorem O55 : Opens Try.prog 55 k55 (fun x : S55 => ((Lit.int .i64 x.f0).wf = true ∧ (Lit.int .i64 x.f1).wf = true ∧ (Lit.int .i64 x.f2).wf = true)) := Opens.iso (Opens.struct3 Try.underlying55 (Opens.int .i64 Try.underlying3) (Opens.int .i64 Try.underlying3) (Opens.int .i64 Try.underlying3) rfl rfl rfl (by kernel_rfl) (by kernel_rfl) (by kernel_rfl) (by kernel_rfl)) (fun x : S55 => (x.f0, x.f1, x.f2)) (fun p => ⟨p.1, p.2.1, p.2.2⟩) (fun _ => rfl)
theorem O24 : Opens Try.prog 24 (Kd.slice 55 k55) (fun x : List (S55) => ∀ x_ ∈ x, ((Lit.int .i64 x_.f0).wf = true ∧ (Lit.int .i64 x_.f1).wf = true ∧ (Lit.int .i64 x_.f2).wf = true)) := Opens.slice Try.underlying24 O55 (by kernel_rfl)
end Go.Proofs.Ytdoakbcopnfgpaa.Opens
