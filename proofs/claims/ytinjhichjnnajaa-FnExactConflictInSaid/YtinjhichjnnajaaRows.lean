/-
  No cell of these rows narrows 'for every input' (looked for: loops, veiled, ifaces, maps, wideKeys, modest, calm, conditions, laid).
  DERIVED. THE GIVEN ROWS OF THIS SEAT. 12 by the template 'for every input the law returns true; each argument reads behind the call as it read before'; 0 by the template 'total and deterministic' (their statements: YtinjhichjnnajaaTotals.lean).
  GIVEN WITH THE SEED: the statements are not yours to turn. If you find one false, say at which input.
  Laid BY PROGRAM, IN A SANDBOX (cutbox-rows.mjs): the forced cells as the released guide's own fill.sh prints them over the translation 2097f9bf71d87349… (all of the seat's roots in one cut). By AI agents, Wed Nov 11 2026. No macro, syntax, notation, axiom, sorry.
-/
import Derived.Test.YtinjhichjnnajaaChecked
import GoSem.Claim
import GoSem.ClaimJoined
import GoSem.ClaimMapViews
import Derived.JoinedTies
import Derived.KernelRfl
namespace Go.Proofs.Ytinjhichjnnajaa
/- THE CELL 'sum', in the pinned program and in every row, IS THE sha256 OF THE DUMP (.gsa) THAT YtinjhichjnnajaaProg.lean LOADS. Nothing in Lean hashes anything: it is a label: what it is worth is what the hold of that sum in a sandbox is worth. -/
noncomputable def Try.pinned : Pinned := { name := "ytinjhichjnnajaa", sum := "2097f9bf71d87349f4efb8e49f2e564797caee389f06542df53f2d661fe27757", checked := Try.checked }
namespace Rows
def none {H : Type} : Left H := { results := [], args := [] }

/-- 'laws.FnExactIsLie': WHATEVER THE INPUT: true; the input reads as it did. -/
def fnExactIsLieSpec : ChangeSpec := { name := "fnExactIsLie", fn := fun _ => fun
  | [d1, d2, d3] => { results := [.lit (.bool true)], args := [d1, d2, d3] }
  | _ => none }
def fnExactIsLieRow : OpenClaim := { program := "ytinjhichjnnajaa", sum := "2097f9bf71d87349f4efb8e49f2e564797caee389f06542df53f2d661fe27757", func := "loop.example/g00564/laws.FnExactIsLie", spec := "fnExactIsLie", recurses := true, apart := false }
def FnExactIsLieSaid : Prop := fnExactIsLieRow.holds Try.pinned (OpenSpec.ofChange fnExactIsLieSpec)

/-- ITS FALSE NEIGHBOUR: 'it returns false'. Refute it at one input. -/
def fnExactIsLieWrong : ChangeSpec := { name := "fnExactIsLie", fn := fun _ => fun
  | [d1, d2, d3] => { results := [.lit (.bool false)], args := [d1, d2, d3] }
  | _ => none }
def FnExactIsLieWrongFalsely : Prop := fnExactIsLieRow.holds Try.pinned (OpenSpec.ofChange fnExactIsLieWrong)

/-- 'laws.FnExactGoodLinks': WHATEVER THE INPUT: true; the input reads as it did. -/
def fnExactGoodLinksSpec : ChangeSpec := { name := "fnExactGoodLinks", fn := fun _ => fun
  | [d1, d2, d3] => { results := [.lit (.bool true)], args := [d1, d2, d3] }
  | _ => none }
def fnExactGoodLinksRow : OpenClaim := { program := "ytinjhichjnnajaa", sum := "2097f9bf71d87349f4efb8e49f2e564797caee389f06542df53f2d661fe27757", func := "loop.example/g00564/laws.FnExactGoodLinks", spec := "fnExactGoodLinks", unfollowed := true, recurses := true, apart := false }
def FnExactGoodLinksSaid : Prop := fnExactGoodLinksRow.holds Try.pinned (OpenSpec.ofChange fnExactGoodLinksSpec)

/-- ITS FALSE NEIGHBOUR: 'it returns false'. Refute it at one input. -/
def fnExactGoodLinksWrong : ChangeSpec := { name := "fnExactGoodLinks", fn := fun _ => fun
  | [d1, d2, d3] => { results := [.lit (.bool false)], args := [d1, d2, d3] }
  | _ => none }
def FnExactGoodLinksWrongFalsely : Prop := fnExactGoodLinksRow.holds Try.pinned (OpenSpec.ofChange fnExactGoodLinksWrong)

/-- 'laws.FnExactCheckProof': WHATEVER THE INPUT: true; the input reads as it did. -/
def fnExactCheckProofSpec : ChangeSpec := { name := "fnExactCheckProof", fn := fun _ => fun
  | [d1, d2] => { results := [.lit (.bool true)], args := [d1, d2] }
  | _ => none }
def fnExactCheckProofRow : OpenClaim := { program := "ytinjhichjnnajaa", sum := "2097f9bf71d87349f4efb8e49f2e564797caee389f06542df53f2d661fe27757", func := "loop.example/g00564/laws.FnExactCheckProof", spec := "fnExactCheckProof", recurses := true, apart := false }
def FnExactCheckProofSaid : Prop := fnExactCheckProofRow.holds Try.pinned (OpenSpec.ofChange fnExactCheckProofSpec)

/-- ITS FALSE NEIGHBOUR: 'it returns false'. Refute it at one input. -/
def fnExactCheckProofWrong : ChangeSpec := { name := "fnExactCheckProof", fn := fun _ => fun
  | [d1, d2] => { results := [.lit (.bool false)], args := [d1, d2] }
  | _ => none }
def FnExactCheckProofWrongFalsely : Prop := fnExactCheckProofRow.holds Try.pinned (OpenSpec.ofChange fnExactCheckProofWrong)

/-- 'laws.FnExactIsLinked': WHATEVER THE INPUT: true; the input reads as it did. -/
def fnExactIsLinkedSpec : ChangeSpec := { name := "fnExactIsLinked", fn := fun _ => fun
  | [d1, d2, d3, d4, d5] => { results := [.lit (.bool true)], args := [d1, d2, d3, d4, d5] }
  | _ => none }
def fnExactIsLinkedRow : OpenClaim := { program := "ytinjhichjnnajaa", sum := "2097f9bf71d87349f4efb8e49f2e564797caee389f06542df53f2d661fe27757", func := "loop.example/g00564/laws.FnExactIsLinked", spec := "fnExactIsLinked", unfollowed := true, recurses := true, apart := false }
def FnExactIsLinkedSaid : Prop := fnExactIsLinkedRow.holds Try.pinned (OpenSpec.ofChange fnExactIsLinkedSpec)

/-- ITS FALSE NEIGHBOUR: 'it returns false'. Refute it at one input. -/
def fnExactIsLinkedWrong : ChangeSpec := { name := "fnExactIsLinked", fn := fun _ => fun
  | [d1, d2, d3, d4, d5] => { results := [.lit (.bool false)], args := [d1, d2, d3, d4, d5] }
  | _ => none }
def FnExactIsLinkedWrongFalsely : Prop := fnExactIsLinkedRow.holds Try.pinned (OpenSpec.ofChange fnExactIsLinkedWrong)

/-- 'laws.FnExactWhoLinks': WHATEVER THE INPUT: true; the input reads as it did. -/
def fnExactWhoLinksSpec : ChangeSpec := { name := "fnExactWhoLinks", fn := fun _ => fun
  | [d1, d2, d3, d4, d5] => { results := [.lit (.bool true)], args := [d1, d2, d3, d4, d5] }
  | _ => none }
def fnExactWhoLinksRow : OpenClaim := { program := "ytinjhichjnnajaa", sum := "2097f9bf71d87349f4efb8e49f2e564797caee389f06542df53f2d661fe27757", func := "loop.example/g00564/laws.FnExactWhoLinks", spec := "fnExactWhoLinks", unfollowed := true, recurses := true, apart := false }
def FnExactWhoLinksSaid : Prop := fnExactWhoLinksRow.holds Try.pinned (OpenSpec.ofChange fnExactWhoLinksSpec)

/-- ITS FALSE NEIGHBOUR: 'it returns false'. Refute it at one input. -/
def fnExactWhoLinksWrong : ChangeSpec := { name := "fnExactWhoLinks", fn := fun _ => fun
  | [d1, d2, d3, d4, d5] => { results := [.lit (.bool false)], args := [d1, d2, d3, d4, d5] }
  | _ => none }
def FnExactWhoLinksWrongFalsely : Prop := fnExactWhoLinksRow.holds Try.pinned (OpenSpec.ofChange fnExactWhoLinksWrong)

/-- 'laws.FnExactStakeLost': WHATEVER THE INPUT: true; the input reads as it did. -/
def fnExactStakeLostSpec : ChangeSpec := { name := "fnExactStakeLost", fn := fun _ => fun
  | [d1, d2, d3] => { results := [.lit (.bool true)], args := [d1, d2, d3] }
  | _ => none }
def fnExactStakeLostRow : OpenClaim := { program := "ytinjhichjnnajaa", sum := "2097f9bf71d87349f4efb8e49f2e564797caee389f06542df53f2d661fe27757", func := "loop.example/g00564/laws.FnExactStakeLost", spec := "fnExactStakeLost", unfollowed := true, recurses := true, apart := false }
def FnExactStakeLostSaid : Prop := fnExactStakeLostRow.holds Try.pinned (OpenSpec.ofChange fnExactStakeLostSpec)

/-- ITS FALSE NEIGHBOUR: 'it returns false'. Refute it at one input. -/
def fnExactStakeLostWrong : ChangeSpec := { name := "fnExactStakeLost", fn := fun _ => fun
  | [d1, d2, d3] => { results := [.lit (.bool false)], args := [d1, d2, d3] }
  | _ => none }
def FnExactStakeLostWrongFalsely : Prop := fnExactStakeLostRow.holds Try.pinned (OpenSpec.ofChange fnExactStakeLostWrong)

/-- 'laws.FnExactMayLink': WHATEVER THE INPUT: true; the input reads as it did. -/
def fnExactMayLinkSpec : ChangeSpec := { name := "fnExactMayLink", fn := fun _ => fun
  | [d1, d2, d3, d4] => { results := [.lit (.bool true)], args := [d1, d2, d3, d4] }
  | _ => none }
def fnExactMayLinkRow : OpenClaim := { program := "ytinjhichjnnajaa", sum := "2097f9bf71d87349f4efb8e49f2e564797caee389f06542df53f2d661fe27757", func := "loop.example/g00564/laws.FnExactMayLink", spec := "fnExactMayLink", unfollowed := true, recurses := true, apart := false }
def FnExactMayLinkSaid : Prop := fnExactMayLinkRow.holds Try.pinned (OpenSpec.ofChange fnExactMayLinkSpec)

/-- ITS FALSE NEIGHBOUR: 'it returns false'. Refute it at one input. -/
def fnExactMayLinkWrong : ChangeSpec := { name := "fnExactMayLink", fn := fun _ => fun
  | [d1, d2, d3, d4] => { results := [.lit (.bool false)], args := [d1, d2, d3, d4] }
  | _ => none }
def FnExactMayLinkWrongFalsely : Prop := fnExactMayLinkRow.holds Try.pinned (OpenSpec.ofChange fnExactMayLinkWrong)

/-- 'laws.FnExactCleanLinks': WHATEVER THE INPUT: true; the input reads as it did. -/
def fnExactCleanLinksSpec : ChangeSpec := { name := "fnExactCleanLinks", fn := fun _ => fun
  | [d1, d2, d3] => { results := [.lit (.bool true)], args := [d1, d2, d3] }
  | _ => none }
def fnExactCleanLinksRow : OpenClaim := { program := "ytinjhichjnnajaa", sum := "2097f9bf71d87349f4efb8e49f2e564797caee389f06542df53f2d661fe27757", func := "loop.example/g00564/laws.FnExactCleanLinks", spec := "fnExactCleanLinks", unfollowed := true, recurses := true, apart := false }
def FnExactCleanLinksSaid : Prop := fnExactCleanLinksRow.holds Try.pinned (OpenSpec.ofChange fnExactCleanLinksSpec)

/-- ITS FALSE NEIGHBOUR: 'it returns false'. Refute it at one input. -/
def fnExactCleanLinksWrong : ChangeSpec := { name := "fnExactCleanLinks", fn := fun _ => fun
  | [d1, d2, d3] => { results := [.lit (.bool false)], args := [d1, d2, d3] }
  | _ => none }
def FnExactCleanLinksWrongFalsely : Prop := fnExactCleanLinksRow.holds Try.pinned (OpenSpec.ofChange fnExactCleanLinksWrong)

/-- 'laws.FnExactHighestIn': WHATEVER THE INPUT: true; the input reads as it did. -/
def fnExactHighestInSpec : ChangeSpec := { name := "fnExactHighestIn", fn := fun _ => fun
  | [d1, d2, d3] => { results := [.lit (.bool true)], args := [d1, d2, d3] }
  | _ => none }
def fnExactHighestInRow : OpenClaim := { program := "ytinjhichjnnajaa", sum := "2097f9bf71d87349f4efb8e49f2e564797caee389f06542df53f2d661fe27757", func := "loop.example/g00564/laws.FnExactHighestIn", spec := "fnExactHighestIn", unfollowed := true, recurses := true, apart := false }
def FnExactHighestInSaid : Prop := fnExactHighestInRow.holds Try.pinned (OpenSpec.ofChange fnExactHighestInSpec)

/-- ITS FALSE NEIGHBOUR: 'it returns false'. Refute it at one input. -/
def fnExactHighestInWrong : ChangeSpec := { name := "fnExactHighestIn", fn := fun _ => fun
  | [d1, d2, d3] => { results := [.lit (.bool false)], args := [d1, d2, d3] }
  | _ => none }
def FnExactHighestInWrongFalsely : Prop := fnExactHighestInRow.holds Try.pinned (OpenSpec.ofChange fnExactHighestInWrong)

/-- 'laws.FnExactJustifiedIn': WHATEVER THE INPUT: true; the input reads as it did. -/
def fnExactJustifiedInSpec : ChangeSpec := { name := "fnExactJustifiedIn", fn := fun _ => fun
  | [d1, d2, d3] => { results := [.lit (.bool true)], args := [d1, d2, d3] }
  | _ => none }
def fnExactJustifiedInRow : OpenClaim := { program := "ytinjhichjnnajaa", sum := "2097f9bf71d87349f4efb8e49f2e564797caee389f06542df53f2d661fe27757", func := "loop.example/g00564/laws.FnExactJustifiedIn", spec := "fnExactJustifiedIn", unfollowed := true, recurses := true, apart := false }
def FnExactJustifiedInSaid : Prop := fnExactJustifiedInRow.holds Try.pinned (OpenSpec.ofChange fnExactJustifiedInSpec)

/-- ITS FALSE NEIGHBOUR: 'it returns false'. Refute it at one input. -/
def fnExactJustifiedInWrong : ChangeSpec := { name := "fnExactJustifiedIn", fn := fun _ => fun
  | [d1, d2, d3] => { results := [.lit (.bool false)], args := [d1, d2, d3] }
  | _ => none }
def FnExactJustifiedInWrongFalsely : Prop := fnExactJustifiedInRow.holds Try.pinned (OpenSpec.ofChange fnExactJustifiedInWrong)

/-- 'laws.FnExactLiarsBy': WHATEVER THE INPUT: true; the input reads as it did. -/
def fnExactLiarsBySpec : ChangeSpec := { name := "fnExactLiarsBy", fn := fun _ => fun
  | [d1, d2, d3] => { results := [.lit (.bool true)], args := [d1, d2, d3] }
  | _ => none }
def fnExactLiarsByRow : OpenClaim := { program := "ytinjhichjnnajaa", sum := "2097f9bf71d87349f4efb8e49f2e564797caee389f06542df53f2d661fe27757", func := "loop.example/g00564/laws.FnExactLiarsBy", spec := "fnExactLiarsBy", unfollowed := true, recurses := true, apart := false }
def FnExactLiarsBySaid : Prop := fnExactLiarsByRow.holds Try.pinned (OpenSpec.ofChange fnExactLiarsBySpec)

/-- ITS FALSE NEIGHBOUR: 'it returns false'. Refute it at one input. -/
def fnExactLiarsByWrong : ChangeSpec := { name := "fnExactLiarsBy", fn := fun _ => fun
  | [d1, d2, d3] => { results := [.lit (.bool false)], args := [d1, d2, d3] }
  | _ => none }
def FnExactLiarsByWrongFalsely : Prop := fnExactLiarsByRow.holds Try.pinned (OpenSpec.ofChange fnExactLiarsByWrong)

/-- 'laws.FnExactConflictIn': WHATEVER THE INPUT: true; the input reads as it did. -/
def fnExactConflictInSpec : ChangeSpec := { name := "fnExactConflictIn", fn := fun _ => fun
  | [d1, d2, d3] => { results := [.lit (.bool true)], args := [d1, d2, d3] }
  | _ => none }
def fnExactConflictInRow : OpenClaim := { program := "ytinjhichjnnajaa", sum := "2097f9bf71d87349f4efb8e49f2e564797caee389f06542df53f2d661fe27757", func := "loop.example/g00564/laws.FnExactConflictIn", spec := "fnExactConflictIn", unfollowed := true, recurses := true, apart := false }
def FnExactConflictInSaid : Prop := fnExactConflictInRow.holds Try.pinned (OpenSpec.ofChange fnExactConflictInSpec)

/-- ITS FALSE NEIGHBOUR: 'it returns false'. Refute it at one input. -/
def fnExactConflictInWrong : ChangeSpec := { name := "fnExactConflictIn", fn := fun _ => fun
  | [d1, d2, d3] => { results := [.lit (.bool false)], args := [d1, d2, d3] }
  | _ => none }
def FnExactConflictInWrongFalsely : Prop := fnExactConflictInRow.holds Try.pinned (OpenSpec.ofChange fnExactConflictInWrong)

/- THE SECOND FORM. 'bulk': how many values and letters a reading holds, each counted each time it is reached (what is shared counts as often as it is met; a slice's spare places count too). A statement '..UptoSaid' is the law's where the arguments, and the package variables that the reading takes, are together of bulk at most 1048576: NARROWER than '..Said'. Prove '..Said' where nothing that the law and all that it calls make is longer than what came in: it says more and counts as full. Else prove '..UptoSaid'. A law counts once. -/
mutual
def uptoBulk {H : Type} : DataW H → Nat
  | .lit (.string bytes) => bytes.length + 1
  | .lit _ => 1
  | .nil => 1
  | .ptr d => uptoBulk d + 1
  | .slice elems spare => uptoBulkAll elems + uptoBulkAll spare + 1
  | .agg parts => uptoBulkAll parts + 1
  | .iface _ d => uptoBulk d + 1
  | .map entries => uptoBulkEntries entries + 1
  | .held _ => 1
def uptoBulkAll {H : Type} : List (DataW H) → Nat
  | [] => 0
  | d :: r => uptoBulk d + uptoBulkAll r
def uptoBulkEntries {H : Type} : List (Lit × DataW H) → Nat
  | [] => 0
  | x :: r => uptoBulkEntry x + uptoBulkEntries r
def uptoBulkEntry {H : Type} : Lit × DataW H → Nat
  | (.string bytes, d) => bytes.length + uptoBulk d + 1
  | (_, d) => uptoBulk d + 1
 end
def uptoSmall : (H : Type) → List (DataW H) → Bool := fun _ ds => decide (uptoBulkAll ds ≤ 1048576)
def OpenSpec.upto (s : _root_.Go.ChangeSpec) : _root_.Go.OpenSpec := { _root_.Go.OpenSpec.ofChange s with cond := some uptoSmall }

/-- 'laws.FnExactIsLie', WHERE WHAT IT READS IS OF BULK AT MOST 1048576: true; the input reads as it did. -/
def fnExactIsLieUptoRow : OpenClaim := { program := "ytinjhichjnnajaa", sum := "2097f9bf71d87349f4efb8e49f2e564797caee389f06542df53f2d661fe27757", func := "loop.example/g00564/laws.FnExactIsLie", spec := "fnExactIsLie", recurses := true, apart := false, narrowed := true }
def FnExactIsLieUptoSaid : Prop := fnExactIsLieUptoRow.holds Try.pinned (OpenSpec.upto fnExactIsLieSpec)

/-- 'laws.FnExactGoodLinks', WHERE WHAT IT READS IS OF BULK AT MOST 1048576: true; the input reads as it did. -/
def fnExactGoodLinksUptoRow : OpenClaim := { program := "ytinjhichjnnajaa", sum := "2097f9bf71d87349f4efb8e49f2e564797caee389f06542df53f2d661fe27757", func := "loop.example/g00564/laws.FnExactGoodLinks", spec := "fnExactGoodLinks", unfollowed := true, recurses := true, apart := false, narrowed := true }
def FnExactGoodLinksUptoSaid : Prop := fnExactGoodLinksUptoRow.holds Try.pinned (OpenSpec.upto fnExactGoodLinksSpec)

/-- 'laws.FnExactCheckProof', WHERE WHAT IT READS IS OF BULK AT MOST 1048576: true; the input reads as it did. -/
def fnExactCheckProofUptoRow : OpenClaim := { program := "ytinjhichjnnajaa", sum := "2097f9bf71d87349f4efb8e49f2e564797caee389f06542df53f2d661fe27757", func := "loop.example/g00564/laws.FnExactCheckProof", spec := "fnExactCheckProof", recurses := true, apart := false, narrowed := true }
def FnExactCheckProofUptoSaid : Prop := fnExactCheckProofUptoRow.holds Try.pinned (OpenSpec.upto fnExactCheckProofSpec)

/-- 'laws.FnExactIsLinked', WHERE WHAT IT READS IS OF BULK AT MOST 1048576: true; the input reads as it did. -/
def fnExactIsLinkedUptoRow : OpenClaim := { program := "ytinjhichjnnajaa", sum := "2097f9bf71d87349f4efb8e49f2e564797caee389f06542df53f2d661fe27757", func := "loop.example/g00564/laws.FnExactIsLinked", spec := "fnExactIsLinked", unfollowed := true, recurses := true, apart := false, narrowed := true }
def FnExactIsLinkedUptoSaid : Prop := fnExactIsLinkedUptoRow.holds Try.pinned (OpenSpec.upto fnExactIsLinkedSpec)

/-- 'laws.FnExactWhoLinks', WHERE WHAT IT READS IS OF BULK AT MOST 1048576: true; the input reads as it did. -/
def fnExactWhoLinksUptoRow : OpenClaim := { program := "ytinjhichjnnajaa", sum := "2097f9bf71d87349f4efb8e49f2e564797caee389f06542df53f2d661fe27757", func := "loop.example/g00564/laws.FnExactWhoLinks", spec := "fnExactWhoLinks", unfollowed := true, recurses := true, apart := false, narrowed := true }
def FnExactWhoLinksUptoSaid : Prop := fnExactWhoLinksUptoRow.holds Try.pinned (OpenSpec.upto fnExactWhoLinksSpec)

/-- 'laws.FnExactStakeLost', WHERE WHAT IT READS IS OF BULK AT MOST 1048576: true; the input reads as it did. -/
def fnExactStakeLostUptoRow : OpenClaim := { program := "ytinjhichjnnajaa", sum := "2097f9bf71d87349f4efb8e49f2e564797caee389f06542df53f2d661fe27757", func := "loop.example/g00564/laws.FnExactStakeLost", spec := "fnExactStakeLost", unfollowed := true, recurses := true, apart := false, narrowed := true }
def FnExactStakeLostUptoSaid : Prop := fnExactStakeLostUptoRow.holds Try.pinned (OpenSpec.upto fnExactStakeLostSpec)

/-- 'laws.FnExactMayLink', WHERE WHAT IT READS IS OF BULK AT MOST 1048576: true; the input reads as it did. -/
def fnExactMayLinkUptoRow : OpenClaim := { program := "ytinjhichjnnajaa", sum := "2097f9bf71d87349f4efb8e49f2e564797caee389f06542df53f2d661fe27757", func := "loop.example/g00564/laws.FnExactMayLink", spec := "fnExactMayLink", unfollowed := true, recurses := true, apart := false, narrowed := true }
def FnExactMayLinkUptoSaid : Prop := fnExactMayLinkUptoRow.holds Try.pinned (OpenSpec.upto fnExactMayLinkSpec)

/-- 'laws.FnExactCleanLinks', WHERE WHAT IT READS IS OF BULK AT MOST 1048576: true; the input reads as it did. -/
def fnExactCleanLinksUptoRow : OpenClaim := { program := "ytinjhichjnnajaa", sum := "2097f9bf71d87349f4efb8e49f2e564797caee389f06542df53f2d661fe27757", func := "loop.example/g00564/laws.FnExactCleanLinks", spec := "fnExactCleanLinks", unfollowed := true, recurses := true, apart := false, narrowed := true }
def FnExactCleanLinksUptoSaid : Prop := fnExactCleanLinksUptoRow.holds Try.pinned (OpenSpec.upto fnExactCleanLinksSpec)

/-- 'laws.FnExactHighestIn', WHERE WHAT IT READS IS OF BULK AT MOST 1048576: true; the input reads as it did. -/
def fnExactHighestInUptoRow : OpenClaim := { program := "ytinjhichjnnajaa", sum := "2097f9bf71d87349f4efb8e49f2e564797caee389f06542df53f2d661fe27757", func := "loop.example/g00564/laws.FnExactHighestIn", spec := "fnExactHighestIn", unfollowed := true, recurses := true, apart := false, narrowed := true }
def FnExactHighestInUptoSaid : Prop := fnExactHighestInUptoRow.holds Try.pinned (OpenSpec.upto fnExactHighestInSpec)

/-- 'laws.FnExactJustifiedIn', WHERE WHAT IT READS IS OF BULK AT MOST 1048576: true; the input reads as it did. -/
def fnExactJustifiedInUptoRow : OpenClaim := { program := "ytinjhichjnnajaa", sum := "2097f9bf71d87349f4efb8e49f2e564797caee389f06542df53f2d661fe27757", func := "loop.example/g00564/laws.FnExactJustifiedIn", spec := "fnExactJustifiedIn", unfollowed := true, recurses := true, apart := false, narrowed := true }
def FnExactJustifiedInUptoSaid : Prop := fnExactJustifiedInUptoRow.holds Try.pinned (OpenSpec.upto fnExactJustifiedInSpec)

/-- 'laws.FnExactLiarsBy', WHERE WHAT IT READS IS OF BULK AT MOST 1048576: true; the input reads as it did. -/
def fnExactLiarsByUptoRow : OpenClaim := { program := "ytinjhichjnnajaa", sum := "2097f9bf71d87349f4efb8e49f2e564797caee389f06542df53f2d661fe27757", func := "loop.example/g00564/laws.FnExactLiarsBy", spec := "fnExactLiarsBy", unfollowed := true, recurses := true, apart := false, narrowed := true }
def FnExactLiarsByUptoSaid : Prop := fnExactLiarsByUptoRow.holds Try.pinned (OpenSpec.upto fnExactLiarsBySpec)

/-- 'laws.FnExactConflictIn', WHERE WHAT IT READS IS OF BULK AT MOST 1048576: true; the input reads as it did. -/
def fnExactConflictInUptoRow : OpenClaim := { program := "ytinjhichjnnajaa", sum := "2097f9bf71d87349f4efb8e49f2e564797caee389f06542df53f2d661fe27757", func := "loop.example/g00564/laws.FnExactConflictIn", spec := "fnExactConflictIn", unfollowed := true, recurses := true, apart := false, narrowed := true }
def FnExactConflictInUptoSaid : Prop := fnExactConflictInUptoRow.holds Try.pinned (OpenSpec.upto fnExactConflictInSpec)

end Rows
end Go.Proofs.Ytinjhichjnnajaa
