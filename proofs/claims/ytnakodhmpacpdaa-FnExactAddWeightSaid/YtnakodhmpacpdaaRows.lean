/-
  No cell of these rows narrows 'for every input' (looked for: loops, veiled, ifaces, maps, wideKeys, modest, calm, conditions, laid).
  DERIVED. THE GIVEN ROWS OF THIS SEAT. 8 by the template 'for every input the law returns true; each argument reads behind the call as it read before'; 0 by the template 'total and deterministic' (their statements: YtnakodhmpacpdaaTotals.lean).
  GIVEN WITH THE SEED: the statements are not yours to turn. If you find one false, say at which input.
  Laid BY PROGRAM, IN A SANDBOX (cutbox-rows.mjs): the forced cells as the released guide's own fill.sh prints them over the translation fd0cef1950a96231… (all of the seat's roots in one cut). By AI agents, Wed Nov 11 2026. No macro, syntax, notation, axiom, sorry.
-/
import Derived.Test.YtnakodhmpacpdaaChecked
import GoSem.Claim
import GoSem.ClaimJoined
import GoSem.ClaimMapViews
import Derived.JoinedTies
import Derived.KernelRfl
namespace Go.Proofs.Ytnakodhmpacpdaa
/- THE CELL 'sum', in the pinned program and in every row, IS THE sha256 OF THE DUMP (.gsa) THAT YtnakodhmpacpdaaProg.lean LOADS. Nothing in Lean hashes anything: it is a label: what it is worth is what the hold of that sum in a sandbox is worth. -/
noncomputable def Try.pinned : Pinned := { name := "ytnakodhmpacpdaa", sum := "fd0cef1950a9623160ae00eabf7f5e109a774362a6478320fda9a24287db6aba", checked := Try.checked }
namespace Rows
def none {H : Type} : Left H := { results := [], args := [] }

/-- 'laws.FnExactOneLink': WHATEVER THE INPUT: true; the input reads as it did. -/
def fnExactOneLinkSpec : ChangeSpec := { name := "fnExactOneLink", fn := fun _ => fun
  | [d1, d2, d3] => { results := [.lit (.bool true)], args := [d1, d2, d3] }
  | _ => none }
def fnExactOneLinkRow : OpenClaim := { program := "ytnakodhmpacpdaa", sum := "fd0cef1950a9623160ae00eabf7f5e109a774362a6478320fda9a24287db6aba", func := "loop.example/g00564/laws.FnExactOneLink", spec := "fnExactOneLink", recurses := true, apart := false }
def FnExactOneLinkSaid : Prop := fnExactOneLinkRow.holds Try.pinned (OpenSpec.ofChange fnExactOneLinkSpec)

/-- ITS FALSE NEIGHBOUR: 'it returns false'. Refute it at one input. -/
def fnExactOneLinkWrong : ChangeSpec := { name := "fnExactOneLink", fn := fun _ => fun
  | [d1, d2, d3] => { results := [.lit (.bool false)], args := [d1, d2, d3] }
  | _ => none }
def FnExactOneLinkWrongFalsely : Prop := fnExactOneLinkRow.holds Try.pinned (OpenSpec.ofChange fnExactOneLinkWrong)

/-- 'laws.FnExactMoveVote': WHATEVER THE INPUT: true; the input reads as it did. -/
def fnExactMoveVoteSpec : ChangeSpec := { name := "fnExactMoveVote", fn := fun _ => fun
  | [d1, d2, d3, d4, d5] => { results := [.lit (.bool true)], args := [d1, d2, d3, d4, d5] }
  | _ => none }
def fnExactMoveVoteRow : OpenClaim := { program := "ytnakodhmpacpdaa", sum := "fd0cef1950a9623160ae00eabf7f5e109a774362a6478320fda9a24287db6aba", func := "loop.example/g00564/laws.FnExactMoveVote", spec := "fnExactMoveVote", unfollowed := true, recurses := true, apart := false }
def FnExactMoveVoteSaid : Prop := fnExactMoveVoteRow.holds Try.pinned (OpenSpec.ofChange fnExactMoveVoteSpec)

/-- ITS FALSE NEIGHBOUR: 'it returns false'. Refute it at one input. -/
def fnExactMoveVoteWrong : ChangeSpec := { name := "fnExactMoveVote", fn := fun _ => fun
  | [d1, d2, d3, d4, d5] => { results := [.lit (.bool false)], args := [d1, d2, d3, d4, d5] }
  | _ => none }
def FnExactMoveVoteWrongFalsely : Prop := fnExactMoveVoteRow.holds Try.pinned (OpenSpec.ofChange fnExactMoveVoteWrong)

/-- 'laws.FnExactSubWeights': WHATEVER THE INPUT: true; the input reads as it did. -/
def fnExactSubWeightsSpec : ChangeSpec := { name := "fnExactSubWeights", fn := fun _ => fun
  | [d1, d2] => { results := [.lit (.bool true)], args := [d1, d2] }
  | _ => none }
def fnExactSubWeightsRow : OpenClaim := { program := "ytnakodhmpacpdaa", sum := "fd0cef1950a9623160ae00eabf7f5e109a774362a6478320fda9a24287db6aba", func := "loop.example/g00564/laws.FnExactSubWeights", spec := "fnExactSubWeights", unfollowed := true, recurses := true, apart := false }
def FnExactSubWeightsSaid : Prop := fnExactSubWeightsRow.holds Try.pinned (OpenSpec.ofChange fnExactSubWeightsSpec)

/-- ITS FALSE NEIGHBOUR: 'it returns false'. Refute it at one input. -/
def fnExactSubWeightsWrong : ChangeSpec := { name := "fnExactSubWeights", fn := fun _ => fun
  | [d1, d2] => { results := [.lit (.bool false)], args := [d1, d2] }
  | _ => none }
def FnExactSubWeightsWrongFalsely : Prop := fnExactSubWeightsRow.holds Try.pinned (OpenSpec.ofChange fnExactSubWeightsWrong)

/-- 'laws.FnExactMarginAt': WHATEVER THE INPUT: true; the input reads as it did. -/
def fnExactMarginAtSpec : ChangeSpec := { name := "fnExactMarginAt", fn := fun _ => fun
  | [d1, d2, d3] => { results := [.lit (.bool true)], args := [d1, d2, d3] }
  | _ => none }
def fnExactMarginAtRow : OpenClaim := { program := "ytnakodhmpacpdaa", sum := "fd0cef1950a9623160ae00eabf7f5e109a774362a6478320fda9a24287db6aba", func := "loop.example/g00564/laws.FnExactMarginAt", spec := "fnExactMarginAt", unfollowed := true, recurses := true, apart := false }
def FnExactMarginAtSaid : Prop := fnExactMarginAtRow.holds Try.pinned (OpenSpec.ofChange fnExactMarginAtSpec)

/-- ITS FALSE NEIGHBOUR: 'it returns false'. Refute it at one input. -/
def fnExactMarginAtWrong : ChangeSpec := { name := "fnExactMarginAt", fn := fun _ => fun
  | [d1, d2, d3] => { results := [.lit (.bool false)], args := [d1, d2, d3] }
  | _ => none }
def FnExactMarginAtWrongFalsely : Prop := fnExactMarginAtRow.holds Try.pinned (OpenSpec.ofChange fnExactMarginAtWrong)

/-- 'laws.FnExactIsHeaviest': WHATEVER THE INPUT: true; the input reads as it did. -/
def fnExactIsHeaviestSpec : ChangeSpec := { name := "fnExactIsHeaviest", fn := fun _ => fun
  | [d1, d2, d3] => { results := [.lit (.bool true)], args := [d1, d2, d3] }
  | _ => none }
def fnExactIsHeaviestRow : OpenClaim := { program := "ytnakodhmpacpdaa", sum := "fd0cef1950a9623160ae00eabf7f5e109a774362a6478320fda9a24287db6aba", func := "loop.example/g00564/laws.FnExactIsHeaviest", spec := "fnExactIsHeaviest", unfollowed := true, recurses := true, apart := false }
def FnExactIsHeaviestSaid : Prop := fnExactIsHeaviestRow.holds Try.pinned (OpenSpec.ofChange fnExactIsHeaviestSpec)

/-- ITS FALSE NEIGHBOUR: 'it returns false'. Refute it at one input. -/
def fnExactIsHeaviestWrong : ChangeSpec := { name := "fnExactIsHeaviest", fn := fun _ => fun
  | [d1, d2, d3] => { results := [.lit (.bool false)], args := [d1, d2, d3] }
  | _ => none }
def FnExactIsHeaviestWrongFalsely : Prop := fnExactIsHeaviestRow.holds Try.pinned (OpenSpec.ofChange fnExactIsHeaviestWrong)

/-- 'laws.FnExactHeadFrom': WHATEVER THE INPUT: true; the input reads as it did. -/
def fnExactHeadFromSpec : ChangeSpec := { name := "fnExactHeadFrom", fn := fun _ => fun
  | [d1, d2, d3] => { results := [.lit (.bool true)], args := [d1, d2, d3] }
  | _ => none }
def fnExactHeadFromRow : OpenClaim := { program := "ytnakodhmpacpdaa", sum := "fd0cef1950a9623160ae00eabf7f5e109a774362a6478320fda9a24287db6aba", func := "loop.example/g00564/laws.FnExactHeadFrom", spec := "fnExactHeadFrom", unfollowed := true, recurses := true, apart := false }
def FnExactHeadFromSaid : Prop := fnExactHeadFromRow.holds Try.pinned (OpenSpec.ofChange fnExactHeadFromSpec)

/-- ITS FALSE NEIGHBOUR: 'it returns false'. Refute it at one input. -/
def fnExactHeadFromWrong : ChangeSpec := { name := "fnExactHeadFrom", fn := fun _ => fun
  | [d1, d2, d3] => { results := [.lit (.bool false)], args := [d1, d2, d3] }
  | _ => none }
def FnExactHeadFromWrongFalsely : Prop := fnExactHeadFromRow.holds Try.pinned (OpenSpec.ofChange fnExactHeadFromWrong)

/-- 'laws.FnExactAddWeight': WHATEVER THE INPUT: true; the input reads as it did. -/
def fnExactAddWeightSpec : ChangeSpec := { name := "fnExactAddWeight", fn := fun _ => fun
  | [d1, d2, d3, d4] => { results := [.lit (.bool true)], args := [d1, d2, d3, d4] }
  | _ => none }
def fnExactAddWeightRow : OpenClaim := { program := "ytnakodhmpacpdaa", sum := "fd0cef1950a9623160ae00eabf7f5e109a774362a6478320fda9a24287db6aba", func := "loop.example/g00564/laws.FnExactAddWeight", spec := "fnExactAddWeight", unfollowed := true, recurses := true, apart := false }
def FnExactAddWeightSaid : Prop := fnExactAddWeightRow.holds Try.pinned (OpenSpec.ofChange fnExactAddWeightSpec)

/-- ITS FALSE NEIGHBOUR: 'it returns false'. Refute it at one input. -/
def fnExactAddWeightWrong : ChangeSpec := { name := "fnExactAddWeight", fn := fun _ => fun
  | [d1, d2, d3, d4] => { results := [.lit (.bool false)], args := [d1, d2, d3, d4] }
  | _ => none }
def FnExactAddWeightWrongFalsely : Prop := fnExactAddWeightRow.holds Try.pinned (OpenSpec.ofChange fnExactAddWeightWrong)

/-- 'laws.FnExactTableOf': WHATEVER THE INPUT: true; the input reads as it did. -/
def fnExactTableOfSpec : ChangeSpec := { name := "fnExactTableOf", fn := fun _ => fun
  | [d] => { results := [.lit (.bool true)], args := [d] }
  | _ => none }
def fnExactTableOfRow : OpenClaim := { program := "ytnakodhmpacpdaa", sum := "fd0cef1950a9623160ae00eabf7f5e109a774362a6478320fda9a24287db6aba", func := "loop.example/g00564/laws.FnExactTableOf", spec := "fnExactTableOf", unfollowed := true, recurses := true, apart := false }
def FnExactTableOfSaid : Prop := fnExactTableOfRow.holds Try.pinned (OpenSpec.ofChange fnExactTableOfSpec)

/-- ITS FALSE NEIGHBOUR: 'it returns false'. Refute it at one input. -/
def fnExactTableOfWrong : ChangeSpec := { name := "fnExactTableOf", fn := fun _ => fun
  | [d] => { results := [.lit (.bool false)], args := [d] }
  | _ => none }
def FnExactTableOfWrongFalsely : Prop := fnExactTableOfRow.holds Try.pinned (OpenSpec.ofChange fnExactTableOfWrong)

/- THE SECOND FORM. 'bulk': how many values and letters a reading holds, each counted each time it is reached (what is shared counts as often as it is met; a slice's spare places count too). A statement '..UptoSaid' is the law's where the arguments, and the package variables that the reading takes, are together of bulk at most 1048576: NARROWER than '..Said'. Prove '..Said' where nothing that the law and all that it calls make is longer than what came in: it says more and counts as full. Else prove '..UptoSaid'. A law counts once. -/
mutual
def uptoBulk {H : Type} : DataW H → Nat
  | .lit (.string bytes) => bytes.length + 1
  | .lit _ => 1
  | .nil => 1
  | .ptr d => uptoBulk d + 1
  | .slice elems spare => uptoBulkAll elems + uptoBulkAll spare + 1
  | .agg parts => uptoBulkAll parts + 1
  | .iface _ d => uptoBulk d + 1
  | .map entries => uptoBulkEntries entries + 1
  | .held _ => 1
def uptoBulkAll {H : Type} : List (DataW H) → Nat
  | [] => 0
  | d :: r => uptoBulk d + uptoBulkAll r
def uptoBulkEntries {H : Type} : List (Lit × DataW H) → Nat
  | [] => 0
  | x :: r => uptoBulkEntry x + uptoBulkEntries r
def uptoBulkEntry {H : Type} : Lit × DataW H → Nat
  | (.string bytes, d) => bytes.length + uptoBulk d + 1
  | (_, d) => uptoBulk d + 1
 end
def uptoSmall : (H : Type) → List (DataW H) → Bool := fun _ ds => decide (uptoBulkAll ds ≤ 1048576)
def OpenSpec.upto (s : _root_.Go.ChangeSpec) : _root_.Go.OpenSpec := { _root_.Go.OpenSpec.ofChange s with cond := some uptoSmall }

/-- 'laws.FnExactOneLink', WHERE WHAT IT READS IS OF BULK AT MOST 1048576: true; the input reads as it did. -/
def fnExactOneLinkUptoRow : OpenClaim := { program := "ytnakodhmpacpdaa", sum := "fd0cef1950a9623160ae00eabf7f5e109a774362a6478320fda9a24287db6aba", func := "loop.example/g00564/laws.FnExactOneLink", spec := "fnExactOneLink", recurses := true, apart := false, narrowed := true }
def FnExactOneLinkUptoSaid : Prop := fnExactOneLinkUptoRow.holds Try.pinned (OpenSpec.upto fnExactOneLinkSpec)

/-- 'laws.FnExactMoveVote', WHERE WHAT IT READS IS OF BULK AT MOST 1048576: true; the input reads as it did. -/
def fnExactMoveVoteUptoRow : OpenClaim := { program := "ytnakodhmpacpdaa", sum := "fd0cef1950a9623160ae00eabf7f5e109a774362a6478320fda9a24287db6aba", func := "loop.example/g00564/laws.FnExactMoveVote", spec := "fnExactMoveVote", unfollowed := true, recurses := true, apart := false, narrowed := true }
def FnExactMoveVoteUptoSaid : Prop := fnExactMoveVoteUptoRow.holds Try.pinned (OpenSpec.upto fnExactMoveVoteSpec)

/-- 'laws.FnExactSubWeights', WHERE WHAT IT READS IS OF BULK AT MOST 1048576: true; the input reads as it did. -/
def fnExactSubWeightsUptoRow : OpenClaim := { program := "ytnakodhmpacpdaa", sum := "fd0cef1950a9623160ae00eabf7f5e109a774362a6478320fda9a24287db6aba", func := "loop.example/g00564/laws.FnExactSubWeights", spec := "fnExactSubWeights", unfollowed := true, recurses := true, apart := false, narrowed := true }
def FnExactSubWeightsUptoSaid : Prop := fnExactSubWeightsUptoRow.holds Try.pinned (OpenSpec.upto fnExactSubWeightsSpec)

/-- 'laws.FnExactMarginAt', WHERE WHAT IT READS IS OF BULK AT MOST 1048576: true; the input reads as it did. -/
def fnExactMarginAtUptoRow : OpenClaim := { program := "ytnakodhmpacpdaa", sum := "fd0cef1950a9623160ae00eabf7f5e109a774362a6478320fda9a24287db6aba", func := "loop.example/g00564/laws.FnExactMarginAt", spec := "fnExactMarginAt", unfollowed := true, recurses := true, apart := false, narrowed := true }
def FnExactMarginAtUptoSaid : Prop := fnExactMarginAtUptoRow.holds Try.pinned (OpenSpec.upto fnExactMarginAtSpec)

/-- 'laws.FnExactIsHeaviest', WHERE WHAT IT READS IS OF BULK AT MOST 1048576: true; the input reads as it did. -/
def fnExactIsHeaviestUptoRow : OpenClaim := { program := "ytnakodhmpacpdaa", sum := "fd0cef1950a9623160ae00eabf7f5e109a774362a6478320fda9a24287db6aba", func := "loop.example/g00564/laws.FnExactIsHeaviest", spec := "fnExactIsHeaviest", unfollowed := true, recurses := true, apart := false, narrowed := true }
def FnExactIsHeaviestUptoSaid : Prop := fnExactIsHeaviestUptoRow.holds Try.pinned (OpenSpec.upto fnExactIsHeaviestSpec)

/-- 'laws.FnExactHeadFrom', WHERE WHAT IT READS IS OF BULK AT MOST 1048576: true; the input reads as it did. -/
def fnExactHeadFromUptoRow : OpenClaim := { program := "ytnakodhmpacpdaa", sum := "fd0cef1950a9623160ae00eabf7f5e109a774362a6478320fda9a24287db6aba", func := "loop.example/g00564/laws.FnExactHeadFrom", spec := "fnExactHeadFrom", unfollowed := true, recurses := true, apart := false, narrowed := true }
def FnExactHeadFromUptoSaid : Prop := fnExactHeadFromUptoRow.holds Try.pinned (OpenSpec.upto fnExactHeadFromSpec)

/-- 'laws.FnExactAddWeight', WHERE WHAT IT READS IS OF BULK AT MOST 1048576: true; the input reads as it did. -/
def fnExactAddWeightUptoRow : OpenClaim := { program := "ytnakodhmpacpdaa", sum := "fd0cef1950a9623160ae00eabf7f5e109a774362a6478320fda9a24287db6aba", func := "loop.example/g00564/laws.FnExactAddWeight", spec := "fnExactAddWeight", unfollowed := true, recurses := true, apart := false, narrowed := true }
def FnExactAddWeightUptoSaid : Prop := fnExactAddWeightUptoRow.holds Try.pinned (OpenSpec.upto fnExactAddWeightSpec)

/-- 'laws.FnExactTableOf', WHERE WHAT IT READS IS OF BULK AT MOST 1048576: true; the input reads as it did. -/
def fnExactTableOfUptoRow : OpenClaim := { program := "ytnakodhmpacpdaa", sum := "fd0cef1950a9623160ae00eabf7f5e109a774362a6478320fda9a24287db6aba", func := "loop.example/g00564/laws.FnExactTableOf", spec := "fnExactTableOf", unfollowed := true, recurses := true, apart := false, narrowed := true }
def FnExactTableOfUptoSaid : Prop := fnExactTableOfUptoRow.holds Try.pinned (OpenSpec.upto fnExactTableOfSpec)

end Rows
end Go.Proofs.Ytnakodhmpacpdaa
