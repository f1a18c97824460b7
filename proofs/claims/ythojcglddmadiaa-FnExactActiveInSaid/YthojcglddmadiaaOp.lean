import Derived.Test.YthojcglddmadiaaWords
import Derived.Test.YthojcglddmadiaaOpens
import Derived.KernelRfl
import Derived.Test.YthojcglddmadiaaQ0
namespace Go.Proofs.Ythojcglddmadiaa.Opens
open Go.RowKit Go.Proofs.YthojcglddmadiaaW.PrintWords Go.Proofs.Ythojcglddmadiaa.Q
set_option linter.unusedVariables false
theorem O75 : Opens Try.prog 75 k75 (fun x : S75 => ((Lit.int .i64 x.f0).wf = true ∧ (Lit.int .i64 x.f1).wf = true)) := Opens.iso (Opens.struct2 Try.underlying75 (Opens.int .i64 Try.underlying3) (Opens.int .i64 Try.underlying3) rfl rfl (by kernel_rfl) (by kernel_rfl) (by kernel_rfl)) (fun x : S75 => (x.f0, x.f1)) (fun p => ⟨p.1, p.2⟩) (fun _ => rfl)
theorem O22 : Opens Try.prog 22 (Kd.slice 75 k75) (fun x : List (S75) => ∀ x_ ∈ x, ((Lit.int .i64 x_.f0).wf = true ∧ (Lit.int .i64 x_.f1).wf = true)) := Opens.slice Try.underlying22 O75 (by kernel_rfl)
theorem O23 : Opens Try.prog 23 (Kd.slice 3 (Kd.int .i64)) (fun x : List Int => ∀ x_ ∈ x, (Lit.int .i64 x_).wf = true) := Opens.slice Try.underlying23 (Opens.int .i64 Try.underlying3) (by kernel_rfl)
theorem O105 : Opens Try.prog 105 k105 (fun x : S105 => ((Lit.int .i64 x.f0).wf = true ∧ (Lit.int .i64 x.f1).wf = true ∧ (Lit.int .i64 x.f2).wf = true)) := Opens.iso (Opens.struct3 Try.underlying105 (Opens.int .i64 Try.underlying3) (Opens.int .i64 Try.underlying3) (Opens.int .i64 Try.underlying3) rfl rfl rfl (by kernel_rfl) (by kernel_rfl) (by kernel_rfl) (by kernel_rfl)) (fun x : S105 => (x.f0, x.f1, x.f2)) (fun p => ⟨p.1, p.2.1, p.2.2⟩) (fun _ => rfl)
theorem O24 : Opens Try.prog 24 (Kd.slice 105 k105) (fun x : List (S105) => ∀ x_ ∈ x, ((Lit.int .i64 x_.f0).wf = true ∧ (Lit.int .i64 x_.f1).wf = true ∧ (Lit.int .i64 x_.f2).wf = true)) := Opens.slice Try.underlying24 O105 (by kernel_rfl)
theorem O26 : Opens Try.prog 26 k26 (fun x : S26 => (∀ x_ ∈ x.f0, ((Lit.int .i64 x_.f0).wf = true ∧ (Lit.int .i64 x_.f1).wf = true ∧ (Lit.int .i64 x_.f2).wf = true))) := Opens.iso (Opens.struct1 Try.underlying26 O24 rfl (by kernel_rfl) (by kernel_rfl)) (fun x : S26 => x.f0) (fun p => ⟨p⟩) (fun _ => rfl)
end Go.Proofs.Ythojcglddmadiaa.Opens
