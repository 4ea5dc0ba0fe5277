/-
  No cell of these rows narrows 'for every input' (looked for: loops, veiled, ifaces, maps, wideKeys, modest, calm, conditions, laid).
  DERIVED. THE GIVEN ROWS OF THIS SEAT. 13 by the template 'for every input the law returns true; each argument reads behind the call as it read before'; 0 by the template 'total and deterministic' (their statements: YtallnifoeahpiaaTotals.lean).
  GIVEN WITH THE SEED: the statements are not yours to turn. If you find one false, say at which input.
  Laid BY PROGRAM, IN A SANDBOX (cutbox-rows.mjs): the forced cells as the released guide's own fill.sh prints them over the translation a94de219216d2568… (all of the seat's roots in one cut). By AI agents, Wed Nov 11 2026. No macro, syntax, notation, axiom, sorry.
-/
import Derived.Test.YtallnifoeahpiaaChecked
import GoSem.Claim
import GoSem.ClaimJoined
import GoSem.ClaimMapViews
import Derived.JoinedTies
import Derived.KernelRfl
namespace Go.Proofs.Ytallnifoeahpiaa
/- THE CELL 'sum', in the pinned program and in every row, IS THE sha256 OF THE DUMP (.gsa) THAT YtallnifoeahpiaaProg.lean LOADS. Nothing in Lean hashes anything: it is a label: what it is worth is what the hold of that sum in a sandbox is worth. -/
noncomputable def Try.pinned : Pinned := { name := "ytallnifoeahpiaa", sum := "a94de219216d25687fabb180658654bcf8d3bb76e790b1846cbe59dc42c2ccb9", checked := Try.checked }
namespace Rows
def none {H : Type} : Left H := { results := [], args := [] }

/-- 'hachurelaw02.EdgeWants': WHATEVER THE INPUT: true; the input reads as it did. -/
def edgeWantsSpec : ChangeSpec := { name := "edgeWants", fn := fun _ => fun
  | [d1, d2, d3] => { results := [.lit (.bool true)], args := [d1, d2, d3] }
  | _ => none }
def edgeWantsRow : OpenClaim := { program := "ytallnifoeahpiaa", sum := "a94de219216d25687fabb180658654bcf8d3bb76e790b1846cbe59dc42c2ccb9", func := "hachure/hachurelaw02.EdgeWants", spec := "edgeWants", unfollowed := true, recurses := true, plainKeys := false, apart := false }
def EdgeWantsSaid : Prop := edgeWantsRow.holds Try.pinned (OpenSpec.ofChange edgeWantsSpec)

/-- ITS FALSE NEIGHBOUR: 'it returns false'. Refute it at one input. -/
def edgeWantsWrong : ChangeSpec := { name := "edgeWants", fn := fun _ => fun
  | [d1, d2, d3] => { results := [.lit (.bool false)], args := [d1, d2, d3] }
  | _ => none }
def EdgeWantsWrongFalsely : Prop := edgeWantsRow.holds Try.pinned (OpenSpec.ofChange edgeWantsWrong)

/-- 'hachurelaw02.EdgeRanges': WHATEVER THE INPUT: true; the input reads as it did. -/
def edgeRangesSpec : ChangeSpec := { name := "edgeRanges", fn := fun _ => fun
  | [d1, d2] => { results := [.lit (.bool true)], args := [d1, d2] }
  | _ => none }
def edgeRangesRow : OpenClaim := { program := "ytallnifoeahpiaa", sum := "a94de219216d25687fabb180658654bcf8d3bb76e790b1846cbe59dc42c2ccb9", func := "hachure/hachurelaw02.EdgeRanges", spec := "edgeRanges", unfollowed := true, recurses := true, plainKeys := false, apart := false }
def EdgeRangesSaid : Prop := edgeRangesRow.holds Try.pinned (OpenSpec.ofChange edgeRangesSpec)

/-- ITS FALSE NEIGHBOUR: 'it returns false'. Refute it at one input. -/
def edgeRangesWrong : ChangeSpec := { name := "edgeRanges", fn := fun _ => fun
  | [d1, d2] => { results := [.lit (.bool false)], args := [d1, d2] }
  | _ => none }
def EdgeRangesWrongFalsely : Prop := edgeRangesRow.holds Try.pinned (OpenSpec.ofChange edgeRangesWrong)

/-- 'hachurelaw02.EdgeBounds': WHATEVER THE INPUT: true; the input reads as it did. -/
def edgeBoundsSpec : ChangeSpec := { name := "edgeBounds", fn := fun _ => fun
  | [d1, d2] => { results := [.lit (.bool true)], args := [d1, d2] }
  | _ => none }
def edgeBoundsRow : OpenClaim := { program := "ytallnifoeahpiaa", sum := "a94de219216d25687fabb180658654bcf8d3bb76e790b1846cbe59dc42c2ccb9", func := "hachure/hachurelaw02.EdgeBounds", spec := "edgeBounds", unfollowed := true, recurses := true, plainKeys := false, apart := false }
def EdgeBoundsSaid : Prop := edgeBoundsRow.holds Try.pinned (OpenSpec.ofChange edgeBoundsSpec)

/-- ITS FALSE NEIGHBOUR: 'it returns false'. Refute it at one input. -/
def edgeBoundsWrong : ChangeSpec := { name := "edgeBounds", fn := fun _ => fun
  | [d1, d2] => { results := [.lit (.bool false)], args := [d1, d2] }
  | _ => none }
def EdgeBoundsWrongFalsely : Prop := edgeBoundsRow.holds Try.pinned (OpenSpec.ofChange edgeBoundsWrong)

/-- 'hachurelaw02.EdgeKnown': WHATEVER THE INPUT: true; the input reads as it did. -/
def edgeKnownSpec : ChangeSpec := { name := "edgeKnown", fn := fun _ => fun
  | [] => { results := [.lit (.bool true)], args := [] }
  | _ => none }
def edgeKnownRow : OpenClaim := { program := "ytallnifoeahpiaa", sum := "a94de219216d25687fabb180658654bcf8d3bb76e790b1846cbe59dc42c2ccb9", func := "hachure/hachurelaw02.EdgeKnown", spec := "edgeKnown", unfollowed := true, recurses := true, plainKeys := false, apart := false }
def EdgeKnownSaid : Prop := edgeKnownRow.holds Try.pinned (OpenSpec.ofChange edgeKnownSpec)

/-- ITS FALSE NEIGHBOUR: 'it returns false'. Refute it at one input. -/
def edgeKnownWrong : ChangeSpec := { name := "edgeKnown", fn := fun _ => fun
  | [] => { results := [.lit (.bool false)], args := [] }
  | _ => none }
def EdgeKnownWrongFalsely : Prop := edgeKnownRow.holds Try.pinned (OpenSpec.ofChange edgeKnownWrong)

/-- 'hachurelaw02.EdgeLeast': WHATEVER THE INPUT: true; the input reads as it did. -/
def edgeLeastSpec : ChangeSpec := { name := "edgeLeast", fn := fun _ => fun
  | [d1, d2] => { results := [.lit (.bool true)], args := [d1, d2] }
  | _ => none }
def edgeLeastRow : OpenClaim := { program := "ytallnifoeahpiaa", sum := "a94de219216d25687fabb180658654bcf8d3bb76e790b1846cbe59dc42c2ccb9", func := "hachure/hachurelaw02.EdgeLeast", spec := "edgeLeast", unfollowed := true, recurses := true, plainKeys := false, apart := false }
def EdgeLeastSaid : Prop := edgeLeastRow.holds Try.pinned (OpenSpec.ofChange edgeLeastSpec)

/-- ITS FALSE NEIGHBOUR: 'it returns false'. Refute it at one input. -/
def edgeLeastWrong : ChangeSpec := { name := "edgeLeast", fn := fun _ => fun
  | [d1, d2] => { results := [.lit (.bool false)], args := [d1, d2] }
  | _ => none }
def EdgeLeastWrongFalsely : Prop := edgeLeastRow.holds Try.pinned (OpenSpec.ofChange edgeLeastWrong)

/-- 'hachurelaw02.EdgeProof': WHATEVER THE INPUT: true; the input reads as it did. -/
def edgeProofSpec : ChangeSpec := { name := "edgeProof", fn := fun _ => fun
  | [d1, d2, d3] => { results := [.lit (.bool true)], args := [d1, d2, d3] }
  | _ => none }
def edgeProofRow : OpenClaim := { program := "ytallnifoeahpiaa", sum := "a94de219216d25687fabb180658654bcf8d3bb76e790b1846cbe59dc42c2ccb9", func := "hachure/hachurelaw02.EdgeProof", spec := "edgeProof", unfollowed := true, recurses := true, plainKeys := false, apart := false }
def EdgeProofSaid : Prop := edgeProofRow.holds Try.pinned (OpenSpec.ofChange edgeProofSpec)

/-- ITS FALSE NEIGHBOUR: 'it returns false'. Refute it at one input. -/
def edgeProofWrong : ChangeSpec := { name := "edgeProof", fn := fun _ => fun
  | [d1, d2, d3] => { results := [.lit (.bool false)], args := [d1, d2, d3] }
  | _ => none }
def EdgeProofWrongFalsely : Prop := edgeProofRow.holds Try.pinned (OpenSpec.ofChange edgeProofWrong)

/-- 'hachurelaw02.EdgeNamed': WHATEVER THE INPUT: true; the input reads as it did. -/
def edgeNamedSpec : ChangeSpec := { name := "edgeNamed", fn := fun _ => fun
  | [d1, d2, d3] => { results := [.lit (.bool true)], args := [d1, d2, d3] }
  | _ => none }
def edgeNamedRow : OpenClaim := { program := "ytallnifoeahpiaa", sum := "a94de219216d25687fabb180658654bcf8d3bb76e790b1846cbe59dc42c2ccb9", func := "hachure/hachurelaw02.EdgeNamed", spec := "edgeNamed", unfollowed := true, recurses := true, plainKeys := false, apart := false }
def EdgeNamedSaid : Prop := edgeNamedRow.holds Try.pinned (OpenSpec.ofChange edgeNamedSpec)

/-- ITS FALSE NEIGHBOUR: 'it returns false'. Refute it at one input. -/
def edgeNamedWrong : ChangeSpec := { name := "edgeNamed", fn := fun _ => fun
  | [d1, d2, d3] => { results := [.lit (.bool false)], args := [d1, d2, d3] }
  | _ => none }
def EdgeNamedWrongFalsely : Prop := edgeNamedRow.holds Try.pinned (OpenSpec.ofChange edgeNamedWrong)

/-- 'hachurelaw02.EdgeTrue': WHATEVER THE INPUT: true; the input reads as it did. -/
def edgeTrueSpec : ChangeSpec := { name := "edgeTrue", fn := fun _ => fun
  | [d1, d2] => { results := [.lit (.bool true)], args := [d1, d2] }
  | _ => none }
def edgeTrueRow : OpenClaim := { program := "ytallnifoeahpiaa", sum := "a94de219216d25687fabb180658654bcf8d3bb76e790b1846cbe59dc42c2ccb9", func := "hachure/hachurelaw02.EdgeTrue", spec := "edgeTrue", unfollowed := true, recurses := true, plainKeys := false, apart := false }
def EdgeTrueSaid : Prop := edgeTrueRow.holds Try.pinned (OpenSpec.ofChange edgeTrueSpec)

/-- ITS FALSE NEIGHBOUR: 'it returns false'. Refute it at one input. -/
def edgeTrueWrong : ChangeSpec := { name := "edgeTrue", fn := fun _ => fun
  | [d1, d2] => { results := [.lit (.bool false)], args := [d1, d2] }
  | _ => none }
def EdgeTrueWrongFalsely : Prop := edgeTrueRow.holds Try.pinned (OpenSpec.ofChange edgeTrueWrong)

/-- 'hachurelaw02.EdgeReached': WHATEVER THE INPUT: true; the input reads as it did. -/
def edgeReachedSpec : ChangeSpec := { name := "edgeReached", fn := fun _ => fun
  | [d1, d2, d3] => { results := [.lit (.bool true)], args := [d1, d2, d3] }
  | _ => none }
def edgeReachedRow : OpenClaim := { program := "ytallnifoeahpiaa", sum := "a94de219216d25687fabb180658654bcf8d3bb76e790b1846cbe59dc42c2ccb9", func := "hachure/hachurelaw02.EdgeReached", spec := "edgeReached", unfollowed := true, recurses := true, plainKeys := false, apart := false }
def EdgeReachedSaid : Prop := edgeReachedRow.holds Try.pinned (OpenSpec.ofChange edgeReachedSpec)

/-- ITS FALSE NEIGHBOUR: 'it returns false'. Refute it at one input. -/
def edgeReachedWrong : ChangeSpec := { name := "edgeReached", fn := fun _ => fun
  | [d1, d2, d3] => { results := [.lit (.bool false)], args := [d1, d2, d3] }
  | _ => none }
def EdgeReachedWrongFalsely : Prop := edgeReachedRow.holds Try.pinned (OpenSpec.ofChange edgeReachedWrong)

/-- 'hachurelaw02.EdgeMore': WHATEVER THE INPUT: true; the input reads as it did. -/
def edgeMoreSpec : ChangeSpec := { name := "edgeMore", fn := fun _ => fun
  | [d1, d2, d3] => { results := [.lit (.bool true)], args := [d1, d2, d3] }
  | _ => none }
def edgeMoreRow : OpenClaim := { program := "ytallnifoeahpiaa", sum := "a94de219216d25687fabb180658654bcf8d3bb76e790b1846cbe59dc42c2ccb9", func := "hachure/hachurelaw02.EdgeMore", spec := "edgeMore", unfollowed := true, recurses := true, plainKeys := false, apart := false }
def EdgeMoreSaid : Prop := edgeMoreRow.holds Try.pinned (OpenSpec.ofChange edgeMoreSpec)

/-- ITS FALSE NEIGHBOUR: 'it returns false'. Refute it at one input. -/
def edgeMoreWrong : ChangeSpec := { name := "edgeMore", fn := fun _ => fun
  | [d1, d2, d3] => { results := [.lit (.bool false)], args := [d1, d2, d3] }
  | _ => none }
def EdgeMoreWrongFalsely : Prop := edgeMoreRow.holds Try.pinned (OpenSpec.ofChange edgeMoreWrong)

/-- 'hachurelaw02.EdgeWider': WHATEVER THE INPUT: true; the input reads as it did. -/
def edgeWiderSpec : ChangeSpec := { name := "edgeWider", fn := fun _ => fun
  | [d1, d2, d3] => { results := [.lit (.bool true)], args := [d1, d2, d3] }
  | _ => none }
def edgeWiderRow : OpenClaim := { program := "ytallnifoeahpiaa", sum := "a94de219216d25687fabb180658654bcf8d3bb76e790b1846cbe59dc42c2ccb9", func := "hachure/hachurelaw02.EdgeWider", spec := "edgeWider", unfollowed := true, recurses := true, plainKeys := false, apart := false }
def EdgeWiderSaid : Prop := edgeWiderRow.holds Try.pinned (OpenSpec.ofChange edgeWiderSpec)

/-- ITS FALSE NEIGHBOUR: 'it returns false'. Refute it at one input. -/
def edgeWiderWrong : ChangeSpec := { name := "edgeWider", fn := fun _ => fun
  | [d1, d2, d3] => { results := [.lit (.bool false)], args := [d1, d2, d3] }
  | _ => none }
def EdgeWiderWrongFalsely : Prop := edgeWiderRow.holds Try.pinned (OpenSpec.ofChange edgeWiderWrong)

/-- 'hachurelaw02.EdgeRaised': WHATEVER THE INPUT: true; the input reads as it did. -/
def edgeRaisedSpec : ChangeSpec := { name := "edgeRaised", fn := fun _ => fun
  | [d1, d2, d3] => { results := [.lit (.bool true)], args := [d1, d2, d3] }
  | _ => none }
def edgeRaisedRow : OpenClaim := { program := "ytallnifoeahpiaa", sum := "a94de219216d25687fabb180658654bcf8d3bb76e790b1846cbe59dc42c2ccb9", func := "hachure/hachurelaw02.EdgeRaised", spec := "edgeRaised", unfollowed := true, recurses := true, plainKeys := false, apart := false }
def EdgeRaisedSaid : Prop := edgeRaisedRow.holds Try.pinned (OpenSpec.ofChange edgeRaisedSpec)

/-- ITS FALSE NEIGHBOUR: 'it returns false'. Refute it at one input. -/
def edgeRaisedWrong : ChangeSpec := { name := "edgeRaised", fn := fun _ => fun
  | [d1, d2, d3] => { results := [.lit (.bool false)], args := [d1, d2, d3] }
  | _ => none }
def EdgeRaisedWrongFalsely : Prop := edgeRaisedRow.holds Try.pinned (OpenSpec.ofChange edgeRaisedWrong)

/-- 'hachurelaw02.EdgeTurned': WHATEVER THE INPUT: true; the input reads as it did. -/
def edgeTurnedSpec : ChangeSpec := { name := "edgeTurned", fn := fun _ => fun
  | [d1, d2, d3] => { results := [.lit (.bool true)], args := [d1, d2, d3] }
  | _ => none }
def edgeTurnedRow : OpenClaim := { program := "ytallnifoeahpiaa", sum := "a94de219216d25687fabb180658654bcf8d3bb76e790b1846cbe59dc42c2ccb9", func := "hachure/hachurelaw02.EdgeTurned", spec := "edgeTurned", unfollowed := true, recurses := true, plainKeys := false, apart := false }
def EdgeTurnedSaid : Prop := edgeTurnedRow.holds Try.pinned (OpenSpec.ofChange edgeTurnedSpec)

/-- ITS FALSE NEIGHBOUR: 'it returns false'. Refute it at one input. -/
def edgeTurnedWrong : ChangeSpec := { name := "edgeTurned", fn := fun _ => fun
  | [d1, d2, d3] => { results := [.lit (.bool false)], args := [d1, d2, d3] }
  | _ => none }
def EdgeTurnedWrongFalsely : Prop := edgeTurnedRow.holds Try.pinned (OpenSpec.ofChange edgeTurnedWrong)

/- THE SECOND FORM. 'bulk': how many values and letters a reading holds, each counted each time it is reached (what is shared counts as often as it is met; a slice's spare places count too). A statement '..UptoSaid' is the law's where the arguments, and the package variables that the reading takes, are together of bulk at most 1048576: NARROWER than '..Said'. Prove '..Said' where nothing that the law and all that it calls make is longer than what came in: it says more and counts as full. Else prove '..UptoSaid'. A law counts once. -/
mutual
def uptoBulk {H : Type} : DataW H → Nat
  | .lit (.string bytes) => bytes.length + 1
  | .lit _ => 1
  | .nil => 1
  | .ptr d => uptoBulk d + 1
  | .slice elems spare => uptoBulkAll elems + uptoBulkAll spare + 1
  | .agg parts => uptoBulkAll parts + 1
  | .iface _ d => uptoBulk d + 1
  | .map entries => uptoBulkEntries entries + 1
  | .held _ => 1
def uptoBulkAll {H : Type} : List (DataW H) → Nat
  | [] => 0
  | d :: r => uptoBulk d + uptoBulkAll r
def uptoBulkEntries {H : Type} : List (Lit × DataW H) → Nat
  | [] => 0
  | x :: r => uptoBulkEntry x + uptoBulkEntries r
def uptoBulkEntry {H : Type} : Lit × DataW H → Nat
  | (.string bytes, d) => bytes.length + uptoBulk d + 1
  | (_, d) => uptoBulk d + 1
 end
def uptoSmall : (H : Type) → List (DataW H) → Bool := fun _ ds => decide (uptoBulkAll ds ≤ 1048576)
def OpenSpec.upto (s : _root_.Go.ChangeSpec) : _root_.Go.OpenSpec := { _root_.Go.OpenSpec.ofChange s with cond := some uptoSmall }

/-- 'hachurelaw02.EdgeWants', WHERE WHAT IT READS IS OF BULK AT MOST 1048576: true; the input reads as it did. -/
def edgeWantsUptoRow : OpenClaim := { program := "ytallnifoeahpiaa", sum := "a94de219216d25687fabb180658654bcf8d3bb76e790b1846cbe59dc42c2ccb9", func := "hachure/hachurelaw02.EdgeWants", spec := "edgeWants", unfollowed := true, recurses := true, plainKeys := false, apart := false, narrowed := true }
def EdgeWantsUptoSaid : Prop := edgeWantsUptoRow.holds Try.pinned (OpenSpec.upto edgeWantsSpec)

/-- 'hachurelaw02.EdgeRanges', WHERE WHAT IT READS IS OF BULK AT MOST 1048576: true; the input reads as it did. -/
def edgeRangesUptoRow : OpenClaim := { program := "ytallnifoeahpiaa", sum := "a94de219216d25687fabb180658654bcf8d3bb76e790b1846cbe59dc42c2ccb9", func := "hachure/hachurelaw02.EdgeRanges", spec := "edgeRanges", unfollowed := true, recurses := true, plainKeys := false, apart := false, narrowed := true }
def EdgeRangesUptoSaid : Prop := edgeRangesUptoRow.holds Try.pinned (OpenSpec.upto edgeRangesSpec)

/-- 'hachurelaw02.EdgeBounds', WHERE WHAT IT READS IS OF BULK AT MOST 1048576: true; the input reads as it did. -/
def edgeBoundsUptoRow : OpenClaim := { program := "ytallnifoeahpiaa", sum := "a94de219216d25687fabb180658654bcf8d3bb76e790b1846cbe59dc42c2ccb9", func := "hachure/hachurelaw02.EdgeBounds", spec := "edgeBounds", unfollowed := true, recurses := true, plainKeys := false, apart := false, narrowed := true }
def EdgeBoundsUptoSaid : Prop := edgeBoundsUptoRow.holds Try.pinned (OpenSpec.upto edgeBoundsSpec)

/-- 'hachurelaw02.EdgeKnown', WHERE WHAT IT READS IS OF BULK AT MOST 1048576: true; the input reads as it did. -/
def edgeKnownUptoRow : OpenClaim := { program := "ytallnifoeahpiaa", sum := "a94de219216d25687fabb180658654bcf8d3bb76e790b1846cbe59dc42c2ccb9", func := "hachure/hachurelaw02.EdgeKnown", spec := "edgeKnown", unfollowed := true, recurses := true, plainKeys := false, apart := false, narrowed := true }
def EdgeKnownUptoSaid : Prop := edgeKnownUptoRow.holds Try.pinned (OpenSpec.upto edgeKnownSpec)

/-- 'hachurelaw02.EdgeLeast', WHERE WHAT IT READS IS OF BULK AT MOST 1048576: true; the input reads as it did. -/
def edgeLeastUptoRow : OpenClaim := { program := "ytallnifoeahpiaa", sum := "a94de219216d25687fabb180658654bcf8d3bb76e790b1846cbe59dc42c2ccb9", func := "hachure/hachurelaw02.EdgeLeast", spec := "edgeLeast", unfollowed := true, recurses := true, plainKeys := false, apart := false, narrowed := true }
def EdgeLeastUptoSaid : Prop := edgeLeastUptoRow.holds Try.pinned (OpenSpec.upto edgeLeastSpec)

/-- 'hachurelaw02.EdgeProof', WHERE WHAT IT READS IS OF BULK AT MOST 1048576: true; the input reads as it did. -/
def edgeProofUptoRow : OpenClaim := { program := "ytallnifoeahpiaa", sum := "a94de219216d25687fabb180658654bcf8d3bb76e790b1846cbe59dc42c2ccb9", func := "hachure/hachurelaw02.EdgeProof", spec := "edgeProof", unfollowed := true, recurses := true, plainKeys := false, apart := false, narrowed := true }
def EdgeProofUptoSaid : Prop := edgeProofUptoRow.holds Try.pinned (OpenSpec.upto edgeProofSpec)

/-- 'hachurelaw02.EdgeNamed', WHERE WHAT IT READS IS OF BULK AT MOST 1048576: true; the input reads as it did. -/
def edgeNamedUptoRow : OpenClaim := { program := "ytallnifoeahpiaa", sum := "a94de219216d25687fabb180658654bcf8d3bb76e790b1846cbe59dc42c2ccb9", func := "hachure/hachurelaw02.EdgeNamed", spec := "edgeNamed", unfollowed := true, recurses := true, plainKeys := false, apart := false, narrowed := true }
def EdgeNamedUptoSaid : Prop := edgeNamedUptoRow.holds Try.pinned (OpenSpec.upto edgeNamedSpec)

/-- 'hachurelaw02.EdgeTrue', WHERE WHAT IT READS IS OF BULK AT MOST 1048576: true; the input reads as it did. -/
def edgeTrueUptoRow : OpenClaim := { program := "ytallnifoeahpiaa", sum := "a94de219216d25687fabb180658654bcf8d3bb76e790b1846cbe59dc42c2ccb9", func := "hachure/hachurelaw02.EdgeTrue", spec := "edgeTrue", unfollowed := true, recurses := true, plainKeys := false, apart := false, narrowed := true }
def EdgeTrueUptoSaid : Prop := edgeTrueUptoRow.holds Try.pinned (OpenSpec.upto edgeTrueSpec)

/-- 'hachurelaw02.EdgeReached', WHERE WHAT IT READS IS OF BULK AT MOST 1048576: true; the input reads as it did. -/
def edgeReachedUptoRow : OpenClaim := { program := "ytallnifoeahpiaa", sum := "a94de219216d25687fabb180658654bcf8d3bb76e790b1846cbe59dc42c2ccb9", func := "hachure/hachurelaw02.EdgeReached", spec := "edgeReached", unfollowed := true, recurses := true, plainKeys := false, apart := false, narrowed := true }
def EdgeReachedUptoSaid : Prop := edgeReachedUptoRow.holds Try.pinned (OpenSpec.upto edgeReachedSpec)

/-- 'hachurelaw02.EdgeMore', WHERE WHAT IT READS IS OF BULK AT MOST 1048576: true; the input reads as it did. -/
def edgeMoreUptoRow : OpenClaim := { program := "ytallnifoeahpiaa", sum := "a94de219216d25687fabb180658654bcf8d3bb76e790b1846cbe59dc42c2ccb9", func := "hachure/hachurelaw02.EdgeMore", spec := "edgeMore", unfollowed := true, recurses := true, plainKeys := false, apart := false, narrowed := true }
def EdgeMoreUptoSaid : Prop := edgeMoreUptoRow.holds Try.pinned (OpenSpec.upto edgeMoreSpec)

/-- 'hachurelaw02.EdgeWider', WHERE WHAT IT READS IS OF BULK AT MOST 1048576: true; the input reads as it did. -/
def edgeWiderUptoRow : OpenClaim := { program := "ytallnifoeahpiaa", sum := "a94de219216d25687fabb180658654bcf8d3bb76e790b1846cbe59dc42c2ccb9", func := "hachure/hachurelaw02.EdgeWider", spec := "edgeWider", unfollowed := true, recurses := true, plainKeys := false, apart := false, narrowed := true }
def EdgeWiderUptoSaid : Prop := edgeWiderUptoRow.holds Try.pinned (OpenSpec.upto edgeWiderSpec)

/-- 'hachurelaw02.EdgeRaised', WHERE WHAT IT READS IS OF BULK AT MOST 1048576: true; the input reads as it did. -/
def edgeRaisedUptoRow : OpenClaim := { program := "ytallnifoeahpiaa", sum := "a94de219216d25687fabb180658654bcf8d3bb76e790b1846cbe59dc42c2ccb9", func := "hachure/hachurelaw02.EdgeRaised", spec := "edgeRaised", unfollowed := true, recurses := true, plainKeys := false, apart := false, narrowed := true }
def EdgeRaisedUptoSaid : Prop := edgeRaisedUptoRow.holds Try.pinned (OpenSpec.upto edgeRaisedSpec)

/-- 'hachurelaw02.EdgeTurned', WHERE WHAT IT READS IS OF BULK AT MOST 1048576: true; the input reads as it did. -/
def edgeTurnedUptoRow : OpenClaim := { program := "ytallnifoeahpiaa", sum := "a94de219216d25687fabb180658654bcf8d3bb76e790b1846cbe59dc42c2ccb9", func := "hachure/hachurelaw02.EdgeTurned", spec := "edgeTurned", unfollowed := true, recurses := true, plainKeys := false, apart := false, narrowed := true }
def EdgeTurnedUptoSaid : Prop := edgeTurnedUptoRow.holds Try.pinned (OpenSpec.upto edgeTurnedSpec)

end Rows
end Go.Proofs.Ytallnifoeahpiaa
