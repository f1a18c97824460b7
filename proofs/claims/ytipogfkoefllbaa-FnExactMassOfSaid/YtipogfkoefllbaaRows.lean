/-
  No cell of these rows narrows 'for every input' (looked for: loops, veiled, ifaces, maps, wideKeys, modest, calm, conditions, laid).
  DERIVED. THE GIVEN ROWS OF THIS SEAT. 11 by the template 'for every input the law returns true; each argument reads behind the call as it read before'; 0 by the template 'total and deterministic' (their statements: YtipogfkoefllbaaTotals.lean).
  GIVEN WITH THE SEED: the statements are not yours to turn. If you find one false, say at which input.
  Laid BY PROGRAM, IN A SANDBOX (cutbox-rows.mjs): the forced cells as the released guide's own fill.sh prints them over the translation 0ed91c1926177254… (all of the seat's roots in one cut). By AI agents, Wed Nov 11 2026. No macro, syntax, notation, axiom, sorry.
-/
import Derived.Test.YtipogfkoefllbaaChecked
import GoSem.Claim
import GoSem.ClaimJoined
import GoSem.ClaimMapViews
import Derived.JoinedTies
import Derived.KernelRfl
namespace Go.Proofs.Ytipogfkoefllbaa
/- THE CELL 'sum', in the pinned program and in every row, IS THE sha256 OF THE DUMP (.gsa) THAT YtipogfkoefllbaaProg.lean LOADS. Nothing in Lean hashes anything: it is a label: what it is worth is what the hold of that sum in a sandbox is worth. -/
noncomputable def Try.pinned : Pinned := { name := "ytipogfkoefllbaa", sum := "0ed91c1926177254963fd915bec0cfd288225257cb88fa8fa6a745ed5c01c2a5", checked := Try.checked }
namespace Rows
def none {H : Type} : Left H := { results := [], args := [] }

/-- 'laws.FnExactHideOf': WHATEVER THE INPUT: true; the input reads as it did. -/
def fnExactHideOfSpec : ChangeSpec := { name := "fnExactHideOf", fn := fun _ => fun
  | [d1, d2] => { results := [.lit (.bool true)], args := [d1, d2] }
  | _ => none }
def fnExactHideOfRow : OpenClaim := { program := "ytipogfkoefllbaa", sum := "0ed91c1926177254963fd915bec0cfd288225257cb88fa8fa6a745ed5c01c2a5", func := "loop.example/g00564/laws.FnExactHideOf", spec := "fnExactHideOf", apart := false }
def FnExactHideOfSaid : Prop := fnExactHideOfRow.holds Try.pinned (OpenSpec.ofChange fnExactHideOfSpec)

/-- ITS FALSE NEIGHBOUR: 'it returns false'. Refute it at one input. -/
def fnExactHideOfWrong : ChangeSpec := { name := "fnExactHideOf", fn := fun _ => fun
  | [d1, d2] => { results := [.lit (.bool false)], args := [d1, d2] }
  | _ => none }
def FnExactHideOfWrongFalsely : Prop := fnExactHideOfRow.holds Try.pinned (OpenSpec.ofChange fnExactHideOfWrong)

/-- 'laws.FnExactOpenHide': WHATEVER THE INPUT: true; the input reads as it did. -/
def fnExactOpenHideSpec : ChangeSpec := { name := "fnExactOpenHide", fn := fun _ => fun
  | [d1, d2, d3] => { results := [.lit (.bool true)], args := [d1, d2, d3] }
  | _ => none }
def fnExactOpenHideRow : OpenClaim := { program := "ytipogfkoefllbaa", sum := "0ed91c1926177254963fd915bec0cfd288225257cb88fa8fa6a745ed5c01c2a5", func := "loop.example/g00564/laws.FnExactOpenHide", spec := "fnExactOpenHide", apart := false }
def FnExactOpenHideSaid : Prop := fnExactOpenHideRow.holds Try.pinned (OpenSpec.ofChange fnExactOpenHideSpec)

/-- ITS FALSE NEIGHBOUR: 'it returns false'. Refute it at one input. -/
def fnExactOpenHideWrong : ChangeSpec := { name := "fnExactOpenHide", fn := fun _ => fun
  | [d1, d2, d3] => { results := [.lit (.bool false)], args := [d1, d2, d3] }
  | _ => none }
def FnExactOpenHideWrongFalsely : Prop := fnExactOpenHideRow.holds Try.pinned (OpenSpec.ofChange fnExactOpenHideWrong)

/-- 'laws.FnExactRunsOutAt': WHATEVER THE INPUT: true; the input reads as it did. -/
def fnExactRunsOutAtSpec : ChangeSpec := { name := "fnExactRunsOutAt", fn := fun _ => fun
  | [d1, d2] => { results := [.lit (.bool true)], args := [d1, d2] }
  | _ => none }
def fnExactRunsOutAtRow : OpenClaim := { program := "ytipogfkoefllbaa", sum := "0ed91c1926177254963fd915bec0cfd288225257cb88fa8fa6a745ed5c01c2a5", func := "loop.example/g00564/laws.FnExactRunsOutAt", spec := "fnExactRunsOutAt", apart := false }
def FnExactRunsOutAtSaid : Prop := fnExactRunsOutAtRow.holds Try.pinned (OpenSpec.ofChange fnExactRunsOutAtSpec)

/-- ITS FALSE NEIGHBOUR: 'it returns false'. Refute it at one input. -/
def fnExactRunsOutAtWrong : ChangeSpec := { name := "fnExactRunsOutAt", fn := fun _ => fun
  | [d1, d2] => { results := [.lit (.bool false)], args := [d1, d2] }
  | _ => none }
def FnExactRunsOutAtWrongFalsely : Prop := fnExactRunsOutAtRow.holds Try.pinned (OpenSpec.ofChange fnExactRunsOutAtWrong)

/-- 'laws.FnExactMixSecrets': WHATEVER THE INPUT: true; the input reads as it did. -/
def fnExactMixSecretsSpec : ChangeSpec := { name := "fnExactMixSecrets", fn := fun _ => fun
  | [d] => { results := [.lit (.bool true)], args := [d] }
  | _ => none }
def fnExactMixSecretsRow : OpenClaim := { program := "ytipogfkoefllbaa", sum := "0ed91c1926177254963fd915bec0cfd288225257cb88fa8fa6a745ed5c01c2a5", func := "loop.example/g00564/laws.FnExactMixSecrets", spec := "fnExactMixSecrets", apart := false }
def FnExactMixSecretsSaid : Prop := fnExactMixSecretsRow.holds Try.pinned (OpenSpec.ofChange fnExactMixSecretsSpec)

/-- ITS FALSE NEIGHBOUR: 'it returns false'. Refute it at one input. -/
def fnExactMixSecretsWrong : ChangeSpec := { name := "fnExactMixSecrets", fn := fun _ => fun
  | [d] => { results := [.lit (.bool false)], args := [d] }
  | _ => none }
def FnExactMixSecretsWrongFalsely : Prop := fnExactMixSecretsRow.holds Try.pinned (OpenSpec.ofChange fnExactMixSecretsWrong)

/-- 'laws.FnExactGoodTable': WHATEVER THE INPUT: true; the input reads as it did. -/
def fnExactGoodTableSpec : ChangeSpec := { name := "fnExactGoodTable", fn := fun _ => fun
  | [d1, d2] => { results := [.lit (.bool true)], args := [d1, d2] }
  | _ => none }
def fnExactGoodTableRow : OpenClaim := { program := "ytipogfkoefllbaa", sum := "0ed91c1926177254963fd915bec0cfd288225257cb88fa8fa6a745ed5c01c2a5", func := "loop.example/g00564/laws.FnExactGoodTable", spec := "fnExactGoodTable", unfollowed := true, recurses := true, apart := false }
def FnExactGoodTableSaid : Prop := fnExactGoodTableRow.holds Try.pinned (OpenSpec.ofChange fnExactGoodTableSpec)

/-- ITS FALSE NEIGHBOUR: 'it returns false'. Refute it at one input. -/
def fnExactGoodTableWrong : ChangeSpec := { name := "fnExactGoodTable", fn := fun _ => fun
  | [d1, d2] => { results := [.lit (.bool false)], args := [d1, d2] }
  | _ => none }
def FnExactGoodTableWrongFalsely : Prop := fnExactGoodTableRow.holds Try.pinned (OpenSpec.ofChange fnExactGoodTableWrong)

/-- 'laws.FnExactPickFrom': WHATEVER THE INPUT: true; the input reads as it did. -/
def fnExactPickFromSpec : ChangeSpec := { name := "fnExactPickFrom", fn := fun _ => fun
  | [d1, d2, d3] => { results := [.lit (.bool true)], args := [d1, d2, d3] }
  | _ => none }
def fnExactPickFromRow : OpenClaim := { program := "ytipogfkoefllbaa", sum := "0ed91c1926177254963fd915bec0cfd288225257cb88fa8fa6a745ed5c01c2a5", func := "loop.example/g00564/laws.FnExactPickFrom", spec := "fnExactPickFrom", unfollowed := true, recurses := true, apart := false }
def FnExactPickFromSaid : Prop := fnExactPickFromRow.holds Try.pinned (OpenSpec.ofChange fnExactPickFromSpec)

/-- ITS FALSE NEIGHBOUR: 'it returns false'. Refute it at one input. -/
def fnExactPickFromWrong : ChangeSpec := { name := "fnExactPickFrom", fn := fun _ => fun
  | [d1, d2, d3] => { results := [.lit (.bool false)], args := [d1, d2, d3] }
  | _ => none }
def FnExactPickFromWrongFalsely : Prop := fnExactPickFromRow.holds Try.pinned (OpenSpec.ofChange fnExactPickFromWrong)

/-- 'laws.FnExactMassOf': WHATEVER THE INPUT: true; the input reads as it did. -/
def fnExactMassOfSpec : ChangeSpec := { name := "fnExactMassOf", fn := fun _ => fun
  | [d1, d2, d3] => { results := [.lit (.bool true)], args := [d1, d2, d3] }
  | _ => none }
def fnExactMassOfRow : OpenClaim := { program := "ytipogfkoefllbaa", sum := "0ed91c1926177254963fd915bec0cfd288225257cb88fa8fa6a745ed5c01c2a5", func := "loop.example/g00564/laws.FnExactMassOf", spec := "fnExactMassOf", unfollowed := true, recurses := true, apart := false }
def FnExactMassOfSaid : Prop := fnExactMassOfRow.holds Try.pinned (OpenSpec.ofChange fnExactMassOfSpec)

/-- ITS FALSE NEIGHBOUR: 'it returns false'. Refute it at one input. -/
def fnExactMassOfWrong : ChangeSpec := { name := "fnExactMassOf", fn := fun _ => fun
  | [d1, d2, d3] => { results := [.lit (.bool false)], args := [d1, d2, d3] }
  | _ => none }
def FnExactMassOfWrongFalsely : Prop := fnExactMassOfRow.holds Try.pinned (OpenSpec.ofChange fnExactMassOfWrong)

/-- 'laws.FnExactTableOf': WHATEVER THE INPUT: true; the input reads as it did. -/
def fnExactTableOfSpec : ChangeSpec := { name := "fnExactTableOf", fn := fun _ => fun
  | [d] => { results := [.lit (.bool true)], args := [d] }
  | _ => none }
def fnExactTableOfRow : OpenClaim := { program := "ytipogfkoefllbaa", sum := "0ed91c1926177254963fd915bec0cfd288225257cb88fa8fa6a745ed5c01c2a5", func := "loop.example/g00564/laws.FnExactTableOf", spec := "fnExactTableOf", unfollowed := true, recurses := true, apart := false }
def FnExactTableOfSaid : Prop := fnExactTableOfRow.holds Try.pinned (OpenSpec.ofChange fnExactTableOfSpec)

/-- ITS FALSE NEIGHBOUR: 'it returns false'. Refute it at one input. -/
def fnExactTableOfWrong : ChangeSpec := { name := "fnExactTableOf", fn := fun _ => fun
  | [d] => { results := [.lit (.bool false)], args := [d] }
  | _ => none }
def FnExactTableOfWrongFalsely : Prop := fnExactTableOfRow.holds Try.pinned (OpenSpec.ofChange fnExactTableOfWrong)

/-- 'laws.FnExactOneLink': WHATEVER THE INPUT: true; the input reads as it did. -/
def fnExactOneLinkSpec : ChangeSpec := { name := "fnExactOneLink", fn := fun _ => fun
  | [d1, d2, d3] => { results := [.lit (.bool true)], args := [d1, d2, d3] }
  | _ => none }
def fnExactOneLinkRow : OpenClaim := { program := "ytipogfkoefllbaa", sum := "0ed91c1926177254963fd915bec0cfd288225257cb88fa8fa6a745ed5c01c2a5", func := "loop.example/g00564/laws.FnExactOneLink", spec := "fnExactOneLink", recurses := true, apart := false }
def FnExactOneLinkSaid : Prop := fnExactOneLinkRow.holds Try.pinned (OpenSpec.ofChange fnExactOneLinkSpec)

/-- ITS FALSE NEIGHBOUR: 'it returns false'. Refute it at one input. -/
def fnExactOneLinkWrong : ChangeSpec := { name := "fnExactOneLink", fn := fun _ => fun
  | [d1, d2, d3] => { results := [.lit (.bool false)], args := [d1, d2, d3] }
  | _ => none }
def FnExactOneLinkWrongFalsely : Prop := fnExactOneLinkRow.holds Try.pinned (OpenSpec.ofChange fnExactOneLinkWrong)

/-- 'laws.FnHidden': WHATEVER THE INPUT: true; the input reads as it did. -/
def fnHiddenSpec : ChangeSpec := { name := "fnHidden", fn := fun _ => fun
  | [d1, d2] => { results := [.lit (.bool true)], args := [d1, d2] }
  | _ => none }
def fnHiddenRow : OpenClaim := { program := "ytipogfkoefllbaa", sum := "0ed91c1926177254963fd915bec0cfd288225257cb88fa8fa6a745ed5c01c2a5", func := "loop.example/g00564/laws.FnHidden", spec := "fnHidden", apart := false }
def FnHiddenSaid : Prop := fnHiddenRow.holds Try.pinned (OpenSpec.ofChange fnHiddenSpec)

/-- ITS FALSE NEIGHBOUR: 'it returns false'. Refute it at one input. -/
def fnHiddenWrong : ChangeSpec := { name := "fnHidden", fn := fun _ => fun
  | [d1, d2] => { results := [.lit (.bool false)], args := [d1, d2] }
  | _ => none }
def FnHiddenWrongFalsely : Prop := fnHiddenRow.holds Try.pinned (OpenSpec.ofChange fnHiddenWrong)

/-- 'laws.FnDrawn': WHATEVER THE INPUT: true; the input reads as it did. -/
def fnDrawnSpec : ChangeSpec := { name := "fnDrawn", fn := fun _ => fun
  | [d1, d2] => { results := [.lit (.bool true)], args := [d1, d2] }
  | _ => none }
def fnDrawnRow : OpenClaim := { program := "ytipogfkoefllbaa", sum := "0ed91c1926177254963fd915bec0cfd288225257cb88fa8fa6a745ed5c01c2a5", func := "loop.example/g00564/laws.FnDrawn", spec := "fnDrawn", unfollowed := true, recurses := true, apart := false }
def FnDrawnSaid : Prop := fnDrawnRow.holds Try.pinned (OpenSpec.ofChange fnDrawnSpec)

/-- ITS FALSE NEIGHBOUR: 'it returns false'. Refute it at one input. -/
def fnDrawnWrong : ChangeSpec := { name := "fnDrawn", fn := fun _ => fun
  | [d1, d2] => { results := [.lit (.bool false)], args := [d1, d2] }
  | _ => none }
def FnDrawnWrongFalsely : Prop := fnDrawnRow.holds Try.pinned (OpenSpec.ofChange fnDrawnWrong)

/- THE SECOND FORM. 'bulk': how many values and letters a reading holds, each counted each time it is reached (what is shared counts as often as it is met; a slice's spare places count too). A statement '..UptoSaid' is the law's where the arguments, and the package variables that the reading takes, are together of bulk at most 1048576: NARROWER than '..Said'. Prove '..Said' where nothing that the law and all that it calls make is longer than what came in: it says more and counts as full. Else prove '..UptoSaid'. A law counts once. -/
mutual
def uptoBulk {H : Type} : DataW H → Nat
  | .lit (.string bytes) => bytes.length + 1
  | .lit _ => 1
  | .nil => 1
  | .ptr d => uptoBulk d + 1
  | .slice elems spare => uptoBulkAll elems + uptoBulkAll spare + 1
  | .agg parts => uptoBulkAll parts + 1
  | .iface _ d => uptoBulk d + 1
  | .map entries => uptoBulkEntries entries + 1
  | .held _ => 1
def uptoBulkAll {H : Type} : List (DataW H) → Nat
  | [] => 0
  | d :: r => uptoBulk d + uptoBulkAll r
def uptoBulkEntries {H : Type} : List (Lit × DataW H) → Nat
  | [] => 0
  | x :: r => uptoBulkEntry x + uptoBulkEntries r
def uptoBulkEntry {H : Type} : Lit × DataW H → Nat
  | (.string bytes, d) => bytes.length + uptoBulk d + 1
  | (_, d) => uptoBulk d + 1
 end
def uptoSmall : (H : Type) → List (DataW H) → Bool := fun _ ds => decide (uptoBulkAll ds ≤ 1048576)
def OpenSpec.upto (s : _root_.Go.ChangeSpec) : _root_.Go.OpenSpec := { _root_.Go.OpenSpec.ofChange s with cond := some uptoSmall }

/-- 'laws.FnExactHideOf', WHERE WHAT IT READS IS OF BULK AT MOST 1048576: true; the input reads as it did. -/
def fnExactHideOfUptoRow : OpenClaim := { program := "ytipogfkoefllbaa", sum := "0ed91c1926177254963fd915bec0cfd288225257cb88fa8fa6a745ed5c01c2a5", func := "loop.example/g00564/laws.FnExactHideOf", spec := "fnExactHideOf", apart := false, narrowed := true }
def FnExactHideOfUptoSaid : Prop := fnExactHideOfUptoRow.holds Try.pinned (OpenSpec.upto fnExactHideOfSpec)

/-- 'laws.FnExactOpenHide', WHERE WHAT IT READS IS OF BULK AT MOST 1048576: true; the input reads as it did. -/
def fnExactOpenHideUptoRow : OpenClaim := { program := "ytipogfkoefllbaa", sum := "0ed91c1926177254963fd915bec0cfd288225257cb88fa8fa6a745ed5c01c2a5", func := "loop.example/g00564/laws.FnExactOpenHide", spec := "fnExactOpenHide", apart := false, narrowed := true }
def FnExactOpenHideUptoSaid : Prop := fnExactOpenHideUptoRow.holds Try.pinned (OpenSpec.upto fnExactOpenHideSpec)

/-- 'laws.FnExactRunsOutAt', WHERE WHAT IT READS IS OF BULK AT MOST 1048576: true; the input reads as it did. -/
def fnExactRunsOutAtUptoRow : OpenClaim := { program := "ytipogfkoefllbaa", sum := "0ed91c1926177254963fd915bec0cfd288225257cb88fa8fa6a745ed5c01c2a5", func := "loop.example/g00564/laws.FnExactRunsOutAt", spec := "fnExactRunsOutAt", apart := false, narrowed := true }
def FnExactRunsOutAtUptoSaid : Prop := fnExactRunsOutAtUptoRow.holds Try.pinned (OpenSpec.upto fnExactRunsOutAtSpec)

/-- 'laws.FnExactMixSecrets', WHERE WHAT IT READS IS OF BULK AT MOST 1048576: true; the input reads as it did. -/
def fnExactMixSecretsUptoRow : OpenClaim := { program := "ytipogfkoefllbaa", sum := "0ed91c1926177254963fd915bec0cfd288225257cb88fa8fa6a745ed5c01c2a5", func := "loop.example/g00564/laws.FnExactMixSecrets", spec := "fnExactMixSecrets", apart := false, narrowed := true }
def FnExactMixSecretsUptoSaid : Prop := fnExactMixSecretsUptoRow.holds Try.pinned (OpenSpec.upto fnExactMixSecretsSpec)

/-- 'laws.FnExactGoodTable', WHERE WHAT IT READS IS OF BULK AT MOST 1048576: true; the input reads as it did. -/
def fnExactGoodTableUptoRow : OpenClaim := { program := "ytipogfkoefllbaa", sum := "0ed91c1926177254963fd915bec0cfd288225257cb88fa8fa6a745ed5c01c2a5", func := "loop.example/g00564/laws.FnExactGoodTable", spec := "fnExactGoodTable", unfollowed := true, recurses := true, apart := false, narrowed := true }
def FnExactGoodTableUptoSaid : Prop := fnExactGoodTableUptoRow.holds Try.pinned (OpenSpec.upto fnExactGoodTableSpec)

/-- 'laws.FnExactPickFrom', WHERE WHAT IT READS IS OF BULK AT MOST 1048576: true; the input reads as it did. -/
def fnExactPickFromUptoRow : OpenClaim := { program := "ytipogfkoefllbaa", sum := "0ed91c1926177254963fd915bec0cfd288225257cb88fa8fa6a745ed5c01c2a5", func := "loop.example/g00564/laws.FnExactPickFrom", spec := "fnExactPickFrom", unfollowed := true, recurses := true, apart := false, narrowed := true }
def FnExactPickFromUptoSaid : Prop := fnExactPickFromUptoRow.holds Try.pinned (OpenSpec.upto fnExactPickFromSpec)

/-- 'laws.FnExactMassOf', WHERE WHAT IT READS IS OF BULK AT MOST 1048576: true; the input reads as it did. -/
def fnExactMassOfUptoRow : OpenClaim := { program := "ytipogfkoefllbaa", sum := "0ed91c1926177254963fd915bec0cfd288225257cb88fa8fa6a745ed5c01c2a5", func := "loop.example/g00564/laws.FnExactMassOf", spec := "fnExactMassOf", unfollowed := true, recurses := true, apart := false, narrowed := true }
def FnExactMassOfUptoSaid : Prop := fnExactMassOfUptoRow.holds Try.pinned (OpenSpec.upto fnExactMassOfSpec)

/-- 'laws.FnExactTableOf', WHERE WHAT IT READS IS OF BULK AT MOST 1048576: true; the input reads as it did. -/
def fnExactTableOfUptoRow : OpenClaim := { program := "ytipogfkoefllbaa", sum := "0ed91c1926177254963fd915bec0cfd288225257cb88fa8fa6a745ed5c01c2a5", func := "loop.example/g00564/laws.FnExactTableOf", spec := "fnExactTableOf", unfollowed := true, recurses := true, apart := false, narrowed := true }
def FnExactTableOfUptoSaid : Prop := fnExactTableOfUptoRow.holds Try.pinned (OpenSpec.upto fnExactTableOfSpec)

/-- 'laws.FnExactOneLink', WHERE WHAT IT READS IS OF BULK AT MOST 1048576: true; the input reads as it did. -/
def fnExactOneLinkUptoRow : OpenClaim := { program := "ytipogfkoefllbaa", sum := "0ed91c1926177254963fd915bec0cfd288225257cb88fa8fa6a745ed5c01c2a5", func := "loop.example/g00564/laws.FnExactOneLink", spec := "fnExactOneLink", recurses := true, apart := false, narrowed := true }
def FnExactOneLinkUptoSaid : Prop := fnExactOneLinkUptoRow.holds Try.pinned (OpenSpec.upto fnExactOneLinkSpec)

/-- 'laws.FnHidden', WHERE WHAT IT READS IS OF BULK AT MOST 1048576: true; the input reads as it did. -/
def fnHiddenUptoRow : OpenClaim := { program := "ytipogfkoefllbaa", sum := "0ed91c1926177254963fd915bec0cfd288225257cb88fa8fa6a745ed5c01c2a5", func := "loop.example/g00564/laws.FnHidden", spec := "fnHidden", apart := false, narrowed := true }
def FnHiddenUptoSaid : Prop := fnHiddenUptoRow.holds Try.pinned (OpenSpec.upto fnHiddenSpec)

/-- 'laws.FnDrawn', WHERE WHAT IT READS IS OF BULK AT MOST 1048576: true; the input reads as it did. -/
def fnDrawnUptoRow : OpenClaim := { program := "ytipogfkoefllbaa", sum := "0ed91c1926177254963fd915bec0cfd288225257cb88fa8fa6a745ed5c01c2a5", func := "loop.example/g00564/laws.FnDrawn", spec := "fnDrawn", unfollowed := true, recurses := true, apart := false, narrowed := true }
def FnDrawnUptoSaid : Prop := fnDrawnUptoRow.holds Try.pinned (OpenSpec.upto fnDrawnSpec)

end Rows
end Go.Proofs.Ytipogfkoefllbaa
