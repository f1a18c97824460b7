/-
IsLinked in plain Lean.
Conditions: none beyond each lemma's own premises.
-/
import Derived.Test.YtdoakbcopnfgpaaLnkW
import Derived.Test.YtdoakbcopnfgpaaGrpW
import Derived.Test.YtdoakbcopnfgpaaQ0
import Derived.Test.YtdoakbcopnfgpaaQ29
import Derived.Test.YtdoakbcopnfgpaaQ32
import Derived.Test.YtdoakbcopnfgpaaQ33
namespace Go.Proofs.Ytdoakbcopnfgpaa.Pure
open Go.RowKit Go.Proofs.Ytdoakbcopnfgpaa.Q Go.Proofs.Ytdoakbcopnfgpaa.Gen Go.Proofs.YtdoakbcopnfgpaaW.PrintWords Go.Proofs.YtdoakbcopnfgpaaW.PrintLast
set_option linter.unusedVariables false
set_option linter.unusedSimpArgs false

theorem specIs_ev {t : List B} {st : List Int} {l : List L} (g : GL t st l) (a b : Int) : Ev (fun k => spec_l10Is.f k st l a b) (great st (wsOf a b l)) := by
  have h40 := g.len
  unfold spec_l10Is.f
  refine Ev.bind (specWho_ev l a b (by omega) g.nine) ?_
  exact Ev.bind (specGreat_ev st _ g.st1 (g.ws a b)) (Ev.now _)
theorem implIs_ev {t : List B} {st : List Int} {l : List L} (g : GL t st l) (a b : Int) : Ev (fun k => (impl_whoLinks.f k l a b).bind fun m => impl_isQuorum.f k st m) (great st (wsOf a b l)) := by
  have h40 := g.len
  refine Ev.bind (implWho_ev l a b (by omega) g.nine) ?_
  exact implQuorum_ev st _ g.st1 (g.ws a b)

end Go.Proofs.Ytdoakbcopnfgpaa.Pure
