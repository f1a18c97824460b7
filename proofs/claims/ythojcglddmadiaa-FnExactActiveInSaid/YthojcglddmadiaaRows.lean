/-
  No cell of these rows narrows 'for every input' (looked for: loops, veiled, ifaces, maps, wideKeys, modest, calm, conditions, laid).
  DERIVED. THE GIVEN ROWS OF THIS SEAT. 12 by the template 'for every input the law returns true; each argument reads behind the call as it read before'; 0 by the template 'total and deterministic' (their statements: YthojcglddmadiaaTotals.lean).
  GIVEN WITH THE SEED: the statements are not yours to turn. If you find one false, say at which input.
  Laid BY PROGRAM, IN A SANDBOX (cutbox-rows.mjs): the forced cells as the released guide's own fill.sh prints them over the translation 117dbcf597fa4daf… (all of the seat's roots in one cut). By AI agents, Wed Nov 11 2026. No macro, syntax, notation, axiom, sorry.
-/
import Derived.Test.YthojcglddmadiaaChecked
import GoSem.Claim
import GoSem.ClaimJoined
import GoSem.ClaimMapViews
import Derived.JoinedTies
import Derived.KernelRfl
namespace Go.Proofs.Ythojcglddmadiaa
/- THE CELL 'sum', in the pinned program and in every row, IS THE sha256 OF THE DUMP (.gsa) THAT YthojcglddmadiaaProg.lean LOADS. Nothing in Lean hashes anything: it is a label: what it is worth is what the hold of that sum in a sandbox is worth. -/
noncomputable def Try.pinned : Pinned := { name := "ythojcglddmadiaa", sum := "117dbcf597fa4daf464874433d32c4c7852a6de1ddf37f3cc5ccf0b0827c0fc0", checked := Try.checked }
namespace Rows
def none {H : Type} : Left H := { results := [], args := [] }

/-- 'laws.FnExactIsWithin': WHATEVER THE INPUT: true; the input reads as it did. -/
def fnExactIsWithinSpec : ChangeSpec := { name := "fnExactIsWithin", fn := fun _ => fun
  | [d1, d2, d3, d4] => { results := [.lit (.bool true)], args := [d1, d2, d3, d4] }
  | _ => none }
def fnExactIsWithinRow : OpenClaim := { program := "ythojcglddmadiaa", sum := "117dbcf597fa4daf464874433d32c4c7852a6de1ddf37f3cc5ccf0b0827c0fc0", func := "loop.example/g00564/laws.FnExactIsWithin", spec := "fnExactIsWithin", unfollowed := true, recurses := true, apart := false }
def FnExactIsWithinSaid : Prop := fnExactIsWithinRow.holds Try.pinned (OpenSpec.ofChange fnExactIsWithinSpec)

/-- ITS FALSE NEIGHBOUR: 'it returns false'. Refute it at one input. -/
def fnExactIsWithinWrong : ChangeSpec := { name := "fnExactIsWithin", fn := fun _ => fun
  | [d1, d2, d3, d4] => { results := [.lit (.bool false)], args := [d1, d2, d3, d4] }
  | _ => none }
def FnExactIsWithinWrongFalsely : Prop := fnExactIsWithinRow.holds Try.pinned (OpenSpec.ofChange fnExactIsWithinWrong)

/-- 'laws.FnExactGoodView': WHATEVER THE INPUT: true; the input reads as it did. -/
def fnExactGoodViewSpec : ChangeSpec := { name := "fnExactGoodView", fn := fun _ => fun
  | [d1, d2, d3] => { results := [.lit (.bool true)], args := [d1, d2, d3] }
  | _ => none }
def fnExactGoodViewRow : OpenClaim := { program := "ythojcglddmadiaa", sum := "117dbcf597fa4daf464874433d32c4c7852a6de1ddf37f3cc5ccf0b0827c0fc0", func := "loop.example/g00564/laws.FnExactGoodView", spec := "fnExactGoodView", unfollowed := true, recurses := true, apart := false }
def FnExactGoodViewSaid : Prop := fnExactGoodViewRow.holds Try.pinned (OpenSpec.ofChange fnExactGoodViewSpec)

/-- ITS FALSE NEIGHBOUR: 'it returns false'. Refute it at one input. -/
def fnExactGoodViewWrong : ChangeSpec := { name := "fnExactGoodView", fn := fun _ => fun
  | [d1, d2, d3] => { results := [.lit (.bool false)], args := [d1, d2, d3] }
  | _ => none }
def FnExactGoodViewWrongFalsely : Prop := fnExactGoodViewRow.holds Try.pinned (OpenSpec.ofChange fnExactGoodViewWrong)

/-- 'laws.FnExactFinalView': WHATEVER THE INPUT: true; the input reads as it did. -/
def fnExactFinalViewSpec : ChangeSpec := { name := "fnExactFinalView", fn := fun _ => fun
  | [d1, d2, d3, d4] => { results := [.lit (.bool true)], args := [d1, d2, d3, d4] }
  | _ => none }
def fnExactFinalViewRow : OpenClaim := { program := "ythojcglddmadiaa", sum := "117dbcf597fa4daf464874433d32c4c7852a6de1ddf37f3cc5ccf0b0827c0fc0", func := "loop.example/g00564/laws.FnExactFinalView", spec := "fnExactFinalView", unfollowed := true, recurses := true, apart := false }
def FnExactFinalViewSaid : Prop := fnExactFinalViewRow.holds Try.pinned (OpenSpec.ofChange fnExactFinalViewSpec)

/-- ITS FALSE NEIGHBOUR: 'it returns false'. Refute it at one input. -/
def fnExactFinalViewWrong : ChangeSpec := { name := "fnExactFinalView", fn := fun _ => fun
  | [d1, d2, d3, d4] => { results := [.lit (.bool false)], args := [d1, d2, d3, d4] }
  | _ => none }
def FnExactFinalViewWrongFalsely : Prop := fnExactFinalViewRow.holds Try.pinned (OpenSpec.ofChange fnExactFinalViewWrong)

/-- 'laws.FnExactTrim': WHATEVER THE INPUT: true; the input reads as it did. -/
def fnExactTrimSpec : ChangeSpec := { name := "fnExactTrim", fn := fun _ => fun
  | [d1, d2, d3, d4, d5] => { results := [.lit (.bool true)], args := [d1, d2, d3, d4, d5] }
  | _ => none }
def fnExactTrimRow : OpenClaim := { program := "ythojcglddmadiaa", sum := "117dbcf597fa4daf464874433d32c4c7852a6de1ddf37f3cc5ccf0b0827c0fc0", func := "loop.example/g00564/laws.FnExactTrim", spec := "fnExactTrim", unfollowed := true, recurses := true, apart := false }
def FnExactTrimSaid : Prop := fnExactTrimRow.holds Try.pinned (OpenSpec.ofChange fnExactTrimSpec)

/-- ITS FALSE NEIGHBOUR: 'it returns false'. Refute it at one input. -/
def fnExactTrimWrong : ChangeSpec := { name := "fnExactTrim", fn := fun _ => fun
  | [d1, d2, d3, d4, d5] => { results := [.lit (.bool false)], args := [d1, d2, d3, d4, d5] }
  | _ => none }
def FnExactTrimWrongFalsely : Prop := fnExactTrimRow.holds Try.pinned (OpenSpec.ofChange fnExactTrimWrong)

/-- 'laws.FnExactActiveIn': WHATEVER THE INPUT: true; the input reads as it did. -/
def fnExactActiveInSpec : ChangeSpec := { name := "fnExactActiveIn", fn := fun _ => fun
  | [d1, d2, d3, d4, d5] => { results := [.lit (.bool true)], args := [d1, d2, d3, d4, d5] }
  | _ => none }
def fnExactActiveInRow : OpenClaim := { program := "ythojcglddmadiaa", sum := "117dbcf597fa4daf464874433d32c4c7852a6de1ddf37f3cc5ccf0b0827c0fc0", func := "loop.example/g00564/laws.FnExactActiveIn", spec := "fnExactActiveIn", unfollowed := true, recurses := true, apart := false }
def FnExactActiveInSaid : Prop := fnExactActiveInRow.holds Try.pinned (OpenSpec.ofChange fnExactActiveInSpec)

/-- ITS FALSE NEIGHBOUR: 'it returns false'. Refute it at one input. -/
def fnExactActiveInWrong : ChangeSpec := { name := "fnExactActiveIn", fn := fun _ => fun
  | [d1, d2, d3, d4, d5] => { results := [.lit (.bool false)], args := [d1, d2, d3, d4, d5] }
  | _ => none }
def FnExactActiveInWrongFalsely : Prop := fnExactActiveInRow.holds Try.pinned (OpenSpec.ofChange fnExactActiveInWrong)

/-- 'laws.FnExactNewView': WHATEVER THE INPUT: true; the input reads as it did. -/
def fnExactNewViewSpec : ChangeSpec := { name := "fnExactNewView", fn := fun _ => fun
  | [d1, d2, d3] => { results := [.lit (.bool true)], args := [d1, d2, d3] }
  | _ => none }
def fnExactNewViewRow : OpenClaim := { program := "ythojcglddmadiaa", sum := "117dbcf597fa4daf464874433d32c4c7852a6de1ddf37f3cc5ccf0b0827c0fc0", func := "loop.example/g00564/laws.FnExactNewView", spec := "fnExactNewView", unfollowed := true, recurses := true, apart := false }
def FnExactNewViewSaid : Prop := fnExactNewViewRow.holds Try.pinned (OpenSpec.ofChange fnExactNewViewSpec)

/-- ITS FALSE NEIGHBOUR: 'it returns false'. Refute it at one input. -/
def fnExactNewViewWrong : ChangeSpec := { name := "fnExactNewView", fn := fun _ => fun
  | [d1, d2, d3] => { results := [.lit (.bool false)], args := [d1, d2, d3] }
  | _ => none }
def FnExactNewViewWrongFalsely : Prop := fnExactNewViewRow.holds Try.pinned (OpenSpec.ofChange fnExactNewViewWrong)

/-- 'laws.FnExactAsleepIn': WHATEVER THE INPUT: true; the input reads as it did. -/
def fnExactAsleepInSpec : ChangeSpec := { name := "fnExactAsleepIn", fn := fun _ => fun
  | [d1, d2, d3, d4, d5] => { results := [.lit (.bool true)], args := [d1, d2, d3, d4, d5] }
  | _ => none }
def fnExactAsleepInRow : OpenClaim := { program := "ythojcglddmadiaa", sum := "117dbcf597fa4daf464874433d32c4c7852a6de1ddf37f3cc5ccf0b0827c0fc0", func := "loop.example/g00564/laws.FnExactAsleepIn", spec := "fnExactAsleepIn", unfollowed := true, recurses := true, apart := false }
def FnExactAsleepInSaid : Prop := fnExactAsleepInRow.holds Try.pinned (OpenSpec.ofChange fnExactAsleepInSpec)

/-- ITS FALSE NEIGHBOUR: 'it returns false'. Refute it at one input. -/
def fnExactAsleepInWrong : ChangeSpec := { name := "fnExactAsleepIn", fn := fun _ => fun
  | [d1, d2, d3, d4, d5] => { results := [.lit (.bool false)], args := [d1, d2, d3, d4, d5] }
  | _ => none }
def FnExactAsleepInWrongFalsely : Prop := fnExactAsleepInRow.holds Try.pinned (OpenSpec.ofChange fnExactAsleepInWrong)

/-- 'laws.FnExactWeightWithin': WHATEVER THE INPUT: true; the input reads as it did. -/
def fnExactWeightWithinSpec : ChangeSpec := { name := "fnExactWeightWithin", fn := fun _ => fun
  | [d1, d2, d3, d4, d5] => { results := [.lit (.bool true)], args := [d1, d2, d3, d4, d5] }
  | _ => none }
def fnExactWeightWithinRow : OpenClaim := { program := "ythojcglddmadiaa", sum := "117dbcf597fa4daf464874433d32c4c7852a6de1ddf37f3cc5ccf0b0827c0fc0", func := "loop.example/g00564/laws.FnExactWeightWithin", spec := "fnExactWeightWithin", unfollowed := true, recurses := true, apart := false }
def FnExactWeightWithinSaid : Prop := fnExactWeightWithinRow.holds Try.pinned (OpenSpec.ofChange fnExactWeightWithinSpec)

/-- ITS FALSE NEIGHBOUR: 'it returns false'. Refute it at one input. -/
def fnExactWeightWithinWrong : ChangeSpec := { name := "fnExactWeightWithin", fn := fun _ => fun
  | [d1, d2, d3, d4, d5] => { results := [.lit (.bool false)], args := [d1, d2, d3, d4, d5] }
  | _ => none }
def FnExactWeightWithinWrongFalsely : Prop := fnExactWeightWithinRow.holds Try.pinned (OpenSpec.ofChange fnExactWeightWithinWrong)

/-- 'laws.FnExactFreezeView': WHATEVER THE INPUT: true; the input reads as it did. -/
def fnExactFreezeViewSpec : ChangeSpec := { name := "fnExactFreezeView", fn := fun _ => fun
  | [d1, d2, d3] => { results := [.lit (.bool true)], args := [d1, d2, d3] }
  | _ => none }
def fnExactFreezeViewRow : OpenClaim := { program := "ythojcglddmadiaa", sum := "117dbcf597fa4daf464874433d32c4c7852a6de1ddf37f3cc5ccf0b0827c0fc0", func := "loop.example/g00564/laws.FnExactFreezeView", spec := "fnExactFreezeView", unfollowed := true, recurses := true, apart := false }
def FnExactFreezeViewSaid : Prop := fnExactFreezeViewRow.holds Try.pinned (OpenSpec.ofChange fnExactFreezeViewSpec)

/-- ITS FALSE NEIGHBOUR: 'it returns false'. Refute it at one input. -/
def fnExactFreezeViewWrong : ChangeSpec := { name := "fnExactFreezeView", fn := fun _ => fun
  | [d1, d2, d3] => { results := [.lit (.bool false)], args := [d1, d2, d3] }
  | _ => none }
def FnExactFreezeViewWrongFalsely : Prop := fnExactFreezeViewRow.holds Try.pinned (OpenSpec.ofChange fnExactFreezeViewWrong)

/-- 'laws.FnExactHeadOf': WHATEVER THE INPUT: true; the input reads as it did. -/
def fnExactHeadOfSpec : ChangeSpec := { name := "fnExactHeadOf", fn := fun _ => fun
  | [d1, d2, d3] => { results := [.lit (.bool true)], args := [d1, d2, d3] }
  | _ => none }
def fnExactHeadOfRow : OpenClaim := { program := "ythojcglddmadiaa", sum := "117dbcf597fa4daf464874433d32c4c7852a6de1ddf37f3cc5ccf0b0827c0fc0", func := "loop.example/g00564/laws.FnExactHeadOf", spec := "fnExactHeadOf", unfollowed := true, recurses := true, apart := false }
def FnExactHeadOfSaid : Prop := fnExactHeadOfRow.holds Try.pinned (OpenSpec.ofChange fnExactHeadOfSpec)

/-- ITS FALSE NEIGHBOUR: 'it returns false'. Refute it at one input. -/
def fnExactHeadOfWrong : ChangeSpec := { name := "fnExactHeadOf", fn := fun _ => fun
  | [d1, d2, d3] => { results := [.lit (.bool false)], args := [d1, d2, d3] }
  | _ => none }
def FnExactHeadOfWrongFalsely : Prop := fnExactHeadOfRow.holds Try.pinned (OpenSpec.ofChange fnExactHeadOfWrong)

/-- 'laws.FnExactSafeBlocks': WHATEVER THE INPUT: true; the input reads as it did. -/
def fnExactSafeBlocksSpec : ChangeSpec := { name := "fnExactSafeBlocks", fn := fun _ => fun
  | [d1, d2, d3] => { results := [.lit (.bool true)], args := [d1, d2, d3] }
  | _ => none }
def fnExactSafeBlocksRow : OpenClaim := { program := "ythojcglddmadiaa", sum := "117dbcf597fa4daf464874433d32c4c7852a6de1ddf37f3cc5ccf0b0827c0fc0", func := "loop.example/g00564/laws.FnExactSafeBlocks", spec := "fnExactSafeBlocks", unfollowed := true, recurses := true, apart := false }
def FnExactSafeBlocksSaid : Prop := fnExactSafeBlocksRow.holds Try.pinned (OpenSpec.ofChange fnExactSafeBlocksSpec)

/-- ITS FALSE NEIGHBOUR: 'it returns false'. Refute it at one input. -/
def fnExactSafeBlocksWrong : ChangeSpec := { name := "fnExactSafeBlocks", fn := fun _ => fun
  | [d1, d2, d3] => { results := [.lit (.bool false)], args := [d1, d2, d3] }
  | _ => none }
def FnExactSafeBlocksWrongFalsely : Prop := fnExactSafeBlocksRow.holds Try.pinned (OpenSpec.ofChange fnExactSafeBlocksWrong)

/-- 'laws.FnExactHeadWithin': WHATEVER THE INPUT: true; the input reads as it did. -/
def fnExactHeadWithinSpec : ChangeSpec := { name := "fnExactHeadWithin", fn := fun _ => fun
  | [d1, d2, d3, d4, d5] => { results := [.lit (.bool true)], args := [d1, d2, d3, d4, d5] }
  | _ => none }
def fnExactHeadWithinRow : OpenClaim := { program := "ythojcglddmadiaa", sum := "117dbcf597fa4daf464874433d32c4c7852a6de1ddf37f3cc5ccf0b0827c0fc0", func := "loop.example/g00564/laws.FnExactHeadWithin", spec := "fnExactHeadWithin", unfollowed := true, recurses := true, apart := false }
def FnExactHeadWithinSaid : Prop := fnExactHeadWithinRow.holds Try.pinned (OpenSpec.ofChange fnExactHeadWithinSpec)

/-- ITS FALSE NEIGHBOUR: 'it returns false'. Refute it at one input. -/
def fnExactHeadWithinWrong : ChangeSpec := { name := "fnExactHeadWithin", fn := fun _ => fun
  | [d1, d2, d3, d4, d5] => { results := [.lit (.bool false)], args := [d1, d2, d3, d4, d5] }
  | _ => none }
def FnExactHeadWithinWrongFalsely : Prop := fnExactHeadWithinRow.holds Try.pinned (OpenSpec.ofChange fnExactHeadWithinWrong)

/- THE SECOND FORM. 'bulk': how many values and letters a reading holds, each counted each time it is reached (what is shared counts as often as it is met; a slice's spare places count too). A statement '..UptoSaid' is the law's where the arguments, and the package variables that the reading takes, are together of bulk at most 1048576: NARROWER than '..Said'. Prove '..Said' where nothing that the law and all that it calls make is longer than what came in: it says more and counts as full. Else prove '..UptoSaid'. A law counts once. -/
mutual
def uptoBulk {H : Type} : DataW H → Nat
  | .lit (.string bytes) => bytes.length + 1
  | .lit _ => 1
  | .nil => 1
  | .ptr d => uptoBulk d + 1
  | .slice elems spare => uptoBulkAll elems + uptoBulkAll spare + 1
  | .agg parts => uptoBulkAll parts + 1
  | .iface _ d => uptoBulk d + 1
  | .map entries => uptoBulkEntries entries + 1
  | .held _ => 1
def uptoBulkAll {H : Type} : List (DataW H) → Nat
  | [] => 0
  | d :: r => uptoBulk d + uptoBulkAll r
def uptoBulkEntries {H : Type} : List (Lit × DataW H) → Nat
  | [] => 0
  | x :: r => uptoBulkEntry x + uptoBulkEntries r
def uptoBulkEntry {H : Type} : Lit × DataW H → Nat
  | (.string bytes, d) => bytes.length + uptoBulk d + 1
  | (_, d) => uptoBulk d + 1
 end
def uptoSmall : (H : Type) → List (DataW H) → Bool := fun _ ds => decide (uptoBulkAll ds ≤ 1048576)
def OpenSpec.upto (s : _root_.Go.ChangeSpec) : _root_.Go.OpenSpec := { _root_.Go.OpenSpec.ofChange s with cond := some uptoSmall }

/-- 'laws.FnExactIsWithin', WHERE WHAT IT READS IS OF BULK AT MOST 1048576: true; the input reads as it did. -/
def fnExactIsWithinUptoRow : OpenClaim := { program := "ythojcglddmadiaa", sum := "117dbcf597fa4daf464874433d32c4c7852a6de1ddf37f3cc5ccf0b0827c0fc0", func := "loop.example/g00564/laws.FnExactIsWithin", spec := "fnExactIsWithin", unfollowed := true, recurses := true, apart := false, narrowed := true }
def FnExactIsWithinUptoSaid : Prop := fnExactIsWithinUptoRow.holds Try.pinned (OpenSpec.upto fnExactIsWithinSpec)

/-- 'laws.FnExactGoodView', WHERE WHAT IT READS IS OF BULK AT MOST 1048576: true; the input reads as it did. -/
def fnExactGoodViewUptoRow : OpenClaim := { program := "ythojcglddmadiaa", sum := "117dbcf597fa4daf464874433d32c4c7852a6de1ddf37f3cc5ccf0b0827c0fc0", func := "loop.example/g00564/laws.FnExactGoodView", spec := "fnExactGoodView", unfollowed := true, recurses := true, apart := false, narrowed := true }
def FnExactGoodViewUptoSaid : Prop := fnExactGoodViewUptoRow.holds Try.pinned (OpenSpec.upto fnExactGoodViewSpec)

/-- 'laws.FnExactFinalView', WHERE WHAT IT READS IS OF BULK AT MOST 1048576: true; the input reads as it did. -/
def fnExactFinalViewUptoRow : OpenClaim := { program := "ythojcglddmadiaa", sum := "117dbcf597fa4daf464874433d32c4c7852a6de1ddf37f3cc5ccf0b0827c0fc0", func := "loop.example/g00564/laws.FnExactFinalView", spec := "fnExactFinalView", unfollowed := true, recurses := true, apart := false, narrowed := true }
def FnExactFinalViewUptoSaid : Prop := fnExactFinalViewUptoRow.holds Try.pinned (OpenSpec.upto fnExactFinalViewSpec)

/-- 'laws.FnExactTrim', WHERE WHAT IT READS IS OF BULK AT MOST 1048576: true; the input reads as it did. -/
def fnExactTrimUptoRow : OpenClaim := { program := "ythojcglddmadiaa", sum := "117dbcf597fa4daf464874433d32c4c7852a6de1ddf37f3cc5ccf0b0827c0fc0", func := "loop.example/g00564/laws.FnExactTrim", spec := "fnExactTrim", unfollowed := true, recurses := true, apart := false, narrowed := true }
def FnExactTrimUptoSaid : Prop := fnExactTrimUptoRow.holds Try.pinned (OpenSpec.upto fnExactTrimSpec)

/-- 'laws.FnExactActiveIn', WHERE WHAT IT READS IS OF BULK AT MOST 1048576: true; the input reads as it did. -/
def fnExactActiveInUptoRow : OpenClaim := { program := "ythojcglddmadiaa", sum := "117dbcf597fa4daf464874433d32c4c7852a6de1ddf37f3cc5ccf0b0827c0fc0", func := "loop.example/g00564/laws.FnExactActiveIn", spec := "fnExactActiveIn", unfollowed := true, recurses := true, apart := false, narrowed := true }
def FnExactActiveInUptoSaid : Prop := fnExactActiveInUptoRow.holds Try.pinned (OpenSpec.upto fnExactActiveInSpec)

/-- 'laws.FnExactNewView', WHERE WHAT IT READS IS OF BULK AT MOST 1048576: true; the input reads as it did. -/
def fnExactNewViewUptoRow : OpenClaim := { program := "ythojcglddmadiaa", sum := "117dbcf597fa4daf464874433d32c4c7852a6de1ddf37f3cc5ccf0b0827c0fc0", func := "loop.example/g00564/laws.FnExactNewView", spec := "fnExactNewView", unfollowed := true, recurses := true, apart := false, narrowed := true }
def FnExactNewViewUptoSaid : Prop := fnExactNewViewUptoRow.holds Try.pinned (OpenSpec.upto fnExactNewViewSpec)

/-- 'laws.FnExactAsleepIn', WHERE WHAT IT READS IS OF BULK AT MOST 1048576: true; the input reads as it did. -/
def fnExactAsleepInUptoRow : OpenClaim := { program := "ythojcglddmadiaa", sum := "117dbcf597fa4daf464874433d32c4c7852a6de1ddf37f3cc5ccf0b0827c0fc0", func := "loop.example/g00564/laws.FnExactAsleepIn", spec := "fnExactAsleepIn", unfollowed := true, recurses := true, apart := false, narrowed := true }
def FnExactAsleepInUptoSaid : Prop := fnExactAsleepInUptoRow.holds Try.pinned (OpenSpec.upto fnExactAsleepInSpec)

/-- 'laws.FnExactWeightWithin', WHERE WHAT IT READS IS OF BULK AT MOST 1048576: true; the input reads as it did. -/
def fnExactWeightWithinUptoRow : OpenClaim := { program := "ythojcglddmadiaa", sum := "117dbcf597fa4daf464874433d32c4c7852a6de1ddf37f3cc5ccf0b0827c0fc0", func := "loop.example/g00564/laws.FnExactWeightWithin", spec := "fnExactWeightWithin", unfollowed := true, recurses := true, apart := false, narrowed := true }
def FnExactWeightWithinUptoSaid : Prop := fnExactWeightWithinUptoRow.holds Try.pinned (OpenSpec.upto fnExactWeightWithinSpec)

/-- 'laws.FnExactFreezeView', WHERE WHAT IT READS IS OF BULK AT MOST 1048576: true; the input reads as it did. -/
def fnExactFreezeViewUptoRow : OpenClaim := { program := "ythojcglddmadiaa", sum := "117dbcf597fa4daf464874433d32c4c7852a6de1ddf37f3cc5ccf0b0827c0fc0", func := "loop.example/g00564/laws.FnExactFreezeView", spec := "fnExactFreezeView", unfollowed := true, recurses := true, apart := false, narrowed := true }
def FnExactFreezeViewUptoSaid : Prop := fnExactFreezeViewUptoRow.holds Try.pinned (OpenSpec.upto fnExactFreezeViewSpec)

/-- 'laws.FnExactHeadOf', WHERE WHAT IT READS IS OF BULK AT MOST 1048576: true; the input reads as it did. -/
def fnExactHeadOfUptoRow : OpenClaim := { program := "ythojcglddmadiaa", sum := "117dbcf597fa4daf464874433d32c4c7852a6de1ddf37f3cc5ccf0b0827c0fc0", func := "loop.example/g00564/laws.FnExactHeadOf", spec := "fnExactHeadOf", unfollowed := true, recurses := true, apart := false, narrowed := true }
def FnExactHeadOfUptoSaid : Prop := fnExactHeadOfUptoRow.holds Try.pinned (OpenSpec.upto fnExactHeadOfSpec)

/-- 'laws.FnExactSafeBlocks', WHERE WHAT IT READS IS OF BULK AT MOST 1048576: true; the input reads as it did. -/
def fnExactSafeBlocksUptoRow : OpenClaim := { program := "ythojcglddmadiaa", sum := "117dbcf597fa4daf464874433d32c4c7852a6de1ddf37f3cc5ccf0b0827c0fc0", func := "loop.example/g00564/laws.FnExactSafeBlocks", spec := "fnExactSafeBlocks", unfollowed := true, recurses := true, apart := false, narrowed := true }
def FnExactSafeBlocksUptoSaid : Prop := fnExactSafeBlocksUptoRow.holds Try.pinned (OpenSpec.upto fnExactSafeBlocksSpec)

/-- 'laws.FnExactHeadWithin', WHERE WHAT IT READS IS OF BULK AT MOST 1048576: true; the input reads as it did. -/
def fnExactHeadWithinUptoRow : OpenClaim := { program := "ythojcglddmadiaa", sum := "117dbcf597fa4daf464874433d32c4c7852a6de1ddf37f3cc5ccf0b0827c0fc0", func := "loop.example/g00564/laws.FnExactHeadWithin", spec := "fnExactHeadWithin", unfollowed := true, recurses := true, apart := false, narrowed := true }
def FnExactHeadWithinUptoSaid : Prop := fnExactHeadWithinUptoRow.holds Try.pinned (OpenSpec.upto fnExactHeadWithinSpec)

end Rows
end Go.Proofs.Ythojcglddmadiaa
