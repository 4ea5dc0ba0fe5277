/-
  No cell of these rows narrows 'for every input' (looked for: loops, veiled, ifaces, maps, wideKeys, modest, calm, conditions, laid).
  DERIVED. THE GIVEN ROWS OF THIS SEAT. 14 by the template 'for every input the law returns true; each argument reads behind the call as it read before'; 0 by the template 'total and deterministic' (their statements: YtpkhbbboedoldaaTotals.lean).
  GIVEN WITH THE SEED: the statements are not yours to turn. If you find one false, say at which input.
  Laid BY PROGRAM, IN A SANDBOX (cutbox-rows.mjs): the forced cells as the released guide's own fill.sh prints them over the translation 715d5659d91b9365… (all of the seat's roots in one cut). By AI agents, Wed Nov 11 2026. No macro, syntax, notation, axiom, sorry.
-/
import Derived.Test.YtpkhbbboedoldaaChecked
import GoSem.Claim
import GoSem.ClaimJoined
import GoSem.ClaimMapViews
import Derived.JoinedTies
import Derived.KernelRfl
namespace Go.Proofs.Ytpkhbbboedoldaa
/- THE CELL 'sum', in the pinned program and in every row, IS THE sha256 OF THE DUMP (.gsa) THAT YtpkhbbboedoldaaProg.lean LOADS. Nothing in Lean hashes anything: it is a label: what it is worth is what the hold of that sum in a sandbox is worth. -/
noncomputable def Try.pinned : Pinned := { name := "ytpkhbbboedoldaa", sum := "715d5659d91b93650fbf92c68a1a5b986113c40a59a6faaf3cf3f522d23ae27d", checked := Try.checked }
namespace Rows
def none {H : Type} : Left H := { results := [], args := [] }

/-- 'hachurelaw09.ColourBands': WHATEVER THE INPUT: true; the input reads as it did. -/
def colourBandsSpec : ChangeSpec := { name := "colourBands", fn := fun _ => fun
  | [d1, d2] => { results := [.lit (.bool true)], args := [d1, d2] }
  | _ => none }
def colourBandsRow : OpenClaim := { program := "ytpkhbbboedoldaa", sum := "715d5659d91b93650fbf92c68a1a5b986113c40a59a6faaf3cf3f522d23ae27d", func := "hachure/hachurelaw09.ColourBands", spec := "colourBands", unfollowed := true, recurses := true, plainKeys := false, apart := false }
def ColourBandsSaid : Prop := colourBandsRow.holds Try.pinned (OpenSpec.ofChange colourBandsSpec)

/-- ITS FALSE NEIGHBOUR: 'it returns false'. Refute it at one input. -/
def colourBandsWrong : ChangeSpec := { name := "colourBands", fn := fun _ => fun
  | [d1, d2] => { results := [.lit (.bool false)], args := [d1, d2] }
  | _ => none }
def ColourBandsWrongFalsely : Prop := colourBandsRow.holds Try.pinned (OpenSpec.ofChange colourBandsWrong)

/-- 'hachurelaw09.ColourPaints': WHATEVER THE INPUT: true; the input reads as it did. -/
def colourPaintsSpec : ChangeSpec := { name := "colourPaints", fn := fun _ => fun
  | [d1, d2, d3] => { results := [.lit (.bool true)], args := [d1, d2, d3] }
  | _ => none }
def colourPaintsRow : OpenClaim := { program := "ytpkhbbboedoldaa", sum := "715d5659d91b93650fbf92c68a1a5b986113c40a59a6faaf3cf3f522d23ae27d", func := "hachure/hachurelaw09.ColourPaints", spec := "colourPaints", unfollowed := true, recurses := true, plainKeys := false, apart := false }
def ColourPaintsSaid : Prop := colourPaintsRow.holds Try.pinned (OpenSpec.ofChange colourPaintsSpec)

/-- ITS FALSE NEIGHBOUR: 'it returns false'. Refute it at one input. -/
def colourPaintsWrong : ChangeSpec := { name := "colourPaints", fn := fun _ => fun
  | [d1, d2, d3] => { results := [.lit (.bool false)], args := [d1, d2, d3] }
  | _ => none }
def ColourPaintsWrongFalsely : Prop := colourPaintsRow.holds Try.pinned (OpenSpec.ofChange colourPaintsWrong)

/-- 'hachurelaw09.ColourBest': WHATEVER THE INPUT: true; the input reads as it did. -/
def colourBestSpec : ChangeSpec := { name := "colourBest", fn := fun _ => fun
  | [d] => { results := [.lit (.bool true)], args := [d] }
  | _ => none }
def colourBestRow : OpenClaim := { program := "ytpkhbbboedoldaa", sum := "715d5659d91b93650fbf92c68a1a5b986113c40a59a6faaf3cf3f522d23ae27d", func := "hachure/hachurelaw09.ColourBest", spec := "colourBest", unfollowed := true, recurses := true, plainKeys := false, apart := false }
def ColourBestSaid : Prop := colourBestRow.holds Try.pinned (OpenSpec.ofChange colourBestSpec)

/-- ITS FALSE NEIGHBOUR: 'it returns false'. Refute it at one input. -/
def colourBestWrong : ChangeSpec := { name := "colourBest", fn := fun _ => fun
  | [d] => { results := [.lit (.bool false)], args := [d] }
  | _ => none }
def ColourBestWrongFalsely : Prop := colourBestRow.holds Try.pinned (OpenSpec.ofChange colourBestWrong)

/-- 'hachurelaw09.ColourKnown': WHATEVER THE INPUT: true; the input reads as it did. -/
def colourKnownSpec : ChangeSpec := { name := "colourKnown", fn := fun _ => fun
  | [] => { results := [.lit (.bool true)], args := [] }
  | _ => none }
def colourKnownRow : OpenClaim := { program := "ytpkhbbboedoldaa", sum := "715d5659d91b93650fbf92c68a1a5b986113c40a59a6faaf3cf3f522d23ae27d", func := "hachure/hachurelaw09.ColourKnown", spec := "colourKnown", unfollowed := true, recurses := true, plainKeys := false, apart := false }
def ColourKnownSaid : Prop := colourKnownRow.holds Try.pinned (OpenSpec.ofChange colourKnownSpec)

/-- ITS FALSE NEIGHBOUR: 'it returns false'. Refute it at one input. -/
def colourKnownWrong : ChangeSpec := { name := "colourKnown", fn := fun _ => fun
  | [] => { results := [.lit (.bool false)], args := [] }
  | _ => none }
def ColourKnownWrongFalsely : Prop := colourKnownRow.holds Try.pinned (OpenSpec.ofChange colourKnownWrong)

/-- 'hachurelaw09.ColourTrue': WHATEVER THE INPUT: true; the input reads as it did. -/
def colourTrueSpec : ChangeSpec := { name := "colourTrue", fn := fun _ => fun
  | [d1, d2] => { results := [.lit (.bool true)], args := [d1, d2] }
  | _ => none }
def colourTrueRow : OpenClaim := { program := "ytpkhbbboedoldaa", sum := "715d5659d91b93650fbf92c68a1a5b986113c40a59a6faaf3cf3f522d23ae27d", func := "hachure/hachurelaw09.ColourTrue", spec := "colourTrue", unfollowed := true, recurses := true, plainKeys := false, apart := false }
def ColourTrueSaid : Prop := colourTrueRow.holds Try.pinned (OpenSpec.ofChange colourTrueSpec)

/-- ITS FALSE NEIGHBOUR: 'it returns false'. Refute it at one input. -/
def colourTrueWrong : ChangeSpec := { name := "colourTrue", fn := fun _ => fun
  | [d1, d2] => { results := [.lit (.bool false)], args := [d1, d2] }
  | _ => none }
def ColourTrueWrongFalsely : Prop := colourTrueRow.holds Try.pinned (OpenSpec.ofChange colourTrueWrong)

/-- 'hachurelaw09.ColourReached': WHATEVER THE INPUT: true; the input reads as it did. -/
def colourReachedSpec : ChangeSpec := { name := "colourReached", fn := fun _ => fun
  | [d1, d2, d3] => { results := [.lit (.bool true)], args := [d1, d2, d3] }
  | _ => none }
def colourReachedRow : OpenClaim := { program := "ytpkhbbboedoldaa", sum := "715d5659d91b93650fbf92c68a1a5b986113c40a59a6faaf3cf3f522d23ae27d", func := "hachure/hachurelaw09.ColourReached", spec := "colourReached", unfollowed := true, recurses := true, plainKeys := false, apart := false }
def ColourReachedSaid : Prop := colourReachedRow.holds Try.pinned (OpenSpec.ofChange colourReachedSpec)

/-- ITS FALSE NEIGHBOUR: 'it returns false'. Refute it at one input. -/
def colourReachedWrong : ChangeSpec := { name := "colourReached", fn := fun _ => fun
  | [d1, d2, d3] => { results := [.lit (.bool false)], args := [d1, d2, d3] }
  | _ => none }
def ColourReachedWrongFalsely : Prop := colourReachedRow.holds Try.pinned (OpenSpec.ofChange colourReachedWrong)

/-- 'hachurelaw09.ColourPainted': WHATEVER THE INPUT: true; the input reads as it did. -/
def colourPaintedSpec : ChangeSpec := { name := "colourPainted", fn := fun _ => fun
  | [d1, d2] => { results := [.lit (.bool true)], args := [d1, d2] }
  | _ => none }
def colourPaintedRow : OpenClaim := { program := "ytpkhbbboedoldaa", sum := "715d5659d91b93650fbf92c68a1a5b986113c40a59a6faaf3cf3f522d23ae27d", func := "hachure/hachurelaw09.ColourPainted", spec := "colourPainted", unfollowed := true, recurses := true, plainKeys := false, apart := false }
def ColourPaintedSaid : Prop := colourPaintedRow.holds Try.pinned (OpenSpec.ofChange colourPaintedSpec)

/-- ITS FALSE NEIGHBOUR: 'it returns false'. Refute it at one input. -/
def colourPaintedWrong : ChangeSpec := { name := "colourPainted", fn := fun _ => fun
  | [d1, d2] => { results := [.lit (.bool false)], args := [d1, d2] }
  | _ => none }
def ColourPaintedWrongFalsely : Prop := colourPaintedRow.holds Try.pinned (OpenSpec.ofChange colourPaintedWrong)

/-- 'hachurelaw09.ColourFewest': WHATEVER THE INPUT: true; the input reads as it did. -/
def colourFewestSpec : ChangeSpec := { name := "colourFewest", fn := fun _ => fun
  | [d1, d2, d3] => { results := [.lit (.bool true)], args := [d1, d2, d3] }
  | _ => none }
def colourFewestRow : OpenClaim := { program := "ytpkhbbboedoldaa", sum := "715d5659d91b93650fbf92c68a1a5b986113c40a59a6faaf3cf3f522d23ae27d", func := "hachure/hachurelaw09.ColourFewest", spec := "colourFewest", unfollowed := true, recurses := true, plainKeys := false, apart := false }
def ColourFewestSaid : Prop := colourFewestRow.holds Try.pinned (OpenSpec.ofChange colourFewestSpec)

/-- ITS FALSE NEIGHBOUR: 'it returns false'. Refute it at one input. -/
def colourFewestWrong : ChangeSpec := { name := "colourFewest", fn := fun _ => fun
  | [d1, d2, d3] => { results := [.lit (.bool false)], args := [d1, d2, d3] }
  | _ => none }
def ColourFewestWrongFalsely : Prop := colourFewestRow.holds Try.pinned (OpenSpec.ofChange colourFewestWrong)

/-- 'hachurelaw09.ColourNamed': WHATEVER THE INPUT: true; the input reads as it did. -/
def colourNamedSpec : ChangeSpec := { name := "colourNamed", fn := fun _ => fun
  | [d1, d2, d3] => { results := [.lit (.bool true)], args := [d1, d2, d3] }
  | _ => none }
def colourNamedRow : OpenClaim := { program := "ytpkhbbboedoldaa", sum := "715d5659d91b93650fbf92c68a1a5b986113c40a59a6faaf3cf3f522d23ae27d", func := "hachure/hachurelaw09.ColourNamed", spec := "colourNamed", unfollowed := true, recurses := true, plainKeys := false, apart := false }
def ColourNamedSaid : Prop := colourNamedRow.holds Try.pinned (OpenSpec.ofChange colourNamedSpec)

/-- ITS FALSE NEIGHBOUR: 'it returns false'. Refute it at one input. -/
def colourNamedWrong : ChangeSpec := { name := "colourNamed", fn := fun _ => fun
  | [d1, d2, d3] => { results := [.lit (.bool false)], args := [d1, d2, d3] }
  | _ => none }
def ColourNamedWrongFalsely : Prop := colourNamedRow.holds Try.pinned (OpenSpec.ofChange colourNamedWrong)

/-- 'hachurelaw09.ColourLeast': WHATEVER THE INPUT: true; the input reads as it did. -/
def colourLeastSpec : ChangeSpec := { name := "colourLeast", fn := fun _ => fun
  | [d1, d2] => { results := [.lit (.bool true)], args := [d1, d2] }
  | _ => none }
def colourLeastRow : OpenClaim := { program := "ytpkhbbboedoldaa", sum := "715d5659d91b93650fbf92c68a1a5b986113c40a59a6faaf3cf3f522d23ae27d", func := "hachure/hachurelaw09.ColourLeast", spec := "colourLeast", unfollowed := true, recurses := true, plainKeys := false, apart := false }
def ColourLeastSaid : Prop := colourLeastRow.holds Try.pinned (OpenSpec.ofChange colourLeastSpec)

/-- ITS FALSE NEIGHBOUR: 'it returns false'. Refute it at one input. -/
def colourLeastWrong : ChangeSpec := { name := "colourLeast", fn := fun _ => fun
  | [d1, d2] => { results := [.lit (.bool false)], args := [d1, d2] }
  | _ => none }
def ColourLeastWrongFalsely : Prop := colourLeastRow.holds Try.pinned (OpenSpec.ofChange colourLeastWrong)

/-- 'hachurelaw09.ColourNarrower': WHATEVER THE INPUT: true; the input reads as it did. -/
def colourNarrowerSpec : ChangeSpec := { name := "colourNarrower", fn := fun _ => fun
  | [d1, d2, d3] => { results := [.lit (.bool true)], args := [d1, d2, d3] }
  | _ => none }
def colourNarrowerRow : OpenClaim := { program := "ytpkhbbboedoldaa", sum := "715d5659d91b93650fbf92c68a1a5b986113c40a59a6faaf3cf3f522d23ae27d", func := "hachure/hachurelaw09.ColourNarrower", spec := "colourNarrower", unfollowed := true, recurses := true, plainKeys := false, apart := false }
def ColourNarrowerSaid : Prop := colourNarrowerRow.holds Try.pinned (OpenSpec.ofChange colourNarrowerSpec)

/-- ITS FALSE NEIGHBOUR: 'it returns false'. Refute it at one input. -/
def colourNarrowerWrong : ChangeSpec := { name := "colourNarrower", fn := fun _ => fun
  | [d1, d2, d3] => { results := [.lit (.bool false)], args := [d1, d2, d3] }
  | _ => none }
def ColourNarrowerWrongFalsely : Prop := colourNarrowerRow.holds Try.pinned (OpenSpec.ofChange colourNarrowerWrong)

/-- 'hachurelaw09.ColourRaised': WHATEVER THE INPUT: true; the input reads as it did. -/
def colourRaisedSpec : ChangeSpec := { name := "colourRaised", fn := fun _ => fun
  | [d1, d2, d3] => { results := [.lit (.bool true)], args := [d1, d2, d3] }
  | _ => none }
def colourRaisedRow : OpenClaim := { program := "ytpkhbbboedoldaa", sum := "715d5659d91b93650fbf92c68a1a5b986113c40a59a6faaf3cf3f522d23ae27d", func := "hachure/hachurelaw09.ColourRaised", spec := "colourRaised", unfollowed := true, recurses := true, plainKeys := false, apart := false }
def ColourRaisedSaid : Prop := colourRaisedRow.holds Try.pinned (OpenSpec.ofChange colourRaisedSpec)

/-- ITS FALSE NEIGHBOUR: 'it returns false'. Refute it at one input. -/
def colourRaisedWrong : ChangeSpec := { name := "colourRaised", fn := fun _ => fun
  | [d1, d2, d3] => { results := [.lit (.bool false)], args := [d1, d2, d3] }
  | _ => none }
def ColourRaisedWrongFalsely : Prop := colourRaisedRow.holds Try.pinned (OpenSpec.ofChange colourRaisedWrong)

/-- 'hachurelaw09.ColourInks': WHATEVER THE INPUT: true; the input reads as it did. -/
def colourInksSpec : ChangeSpec := { name := "colourInks", fn := fun _ => fun
  | [d1, d2, d3] => { results := [.lit (.bool true)], args := [d1, d2, d3] }
  | _ => none }
def colourInksRow : OpenClaim := { program := "ytpkhbbboedoldaa", sum := "715d5659d91b93650fbf92c68a1a5b986113c40a59a6faaf3cf3f522d23ae27d", func := "hachure/hachurelaw09.ColourInks", spec := "colourInks", unfollowed := true, recurses := true, plainKeys := false, apart := false }
def ColourInksSaid : Prop := colourInksRow.holds Try.pinned (OpenSpec.ofChange colourInksSpec)

/-- ITS FALSE NEIGHBOUR: 'it returns false'. Refute it at one input. -/
def colourInksWrong : ChangeSpec := { name := "colourInks", fn := fun _ => fun
  | [d1, d2, d3] => { results := [.lit (.bool false)], args := [d1, d2, d3] }
  | _ => none }
def ColourInksWrongFalsely : Prop := colourInksRow.holds Try.pinned (OpenSpec.ofChange colourInksWrong)

/-- 'hachurelaw09.ColourTurned': WHATEVER THE INPUT: true; the input reads as it did. -/
def colourTurnedSpec : ChangeSpec := { name := "colourTurned", fn := fun _ => fun
  | [d1, d2] => { results := [.lit (.bool true)], args := [d1, d2] }
  | _ => none }
def colourTurnedRow : OpenClaim := { program := "ytpkhbbboedoldaa", sum := "715d5659d91b93650fbf92c68a1a5b986113c40a59a6faaf3cf3f522d23ae27d", func := "hachure/hachurelaw09.ColourTurned", spec := "colourTurned", unfollowed := true, recurses := true, plainKeys := false, apart := false }
def ColourTurnedSaid : Prop := colourTurnedRow.holds Try.pinned (OpenSpec.ofChange colourTurnedSpec)

/-- ITS FALSE NEIGHBOUR: 'it returns false'. Refute it at one input. -/
def colourTurnedWrong : ChangeSpec := { name := "colourTurned", fn := fun _ => fun
  | [d1, d2] => { results := [.lit (.bool false)], args := [d1, d2] }
  | _ => none }
def ColourTurnedWrongFalsely : Prop := colourTurnedRow.holds Try.pinned (OpenSpec.ofChange colourTurnedWrong)

/- THE SECOND FORM. 'bulk': how many values and letters a reading holds, each counted each time it is reached (what is shared counts as often as it is met; a slice's spare places count too). A statement '..UptoSaid' is the law's where the arguments, and the package variables that the reading takes, are together of bulk at most 1048576: NARROWER than '..Said'. Prove '..Said' where nothing that the law and all that it calls make is longer than what came in: it says more and counts as full. Else prove '..UptoSaid'. A law counts once. -/
mutual
def uptoBulk {H : Type} : DataW H → Nat
  | .lit (.string bytes) => bytes.length + 1
  | .lit _ => 1
  | .nil => 1
  | .ptr d => uptoBulk d + 1
  | .slice elems spare => uptoBulkAll elems + uptoBulkAll spare + 1
  | .agg parts => uptoBulkAll parts + 1
  | .iface _ d => uptoBulk d + 1
  | .map entries => uptoBulkEntries entries + 1
  | .held _ => 1
def uptoBulkAll {H : Type} : List (DataW H) → Nat
  | [] => 0
  | d :: r => uptoBulk d + uptoBulkAll r
def uptoBulkEntries {H : Type} : List (Lit × DataW H) → Nat
  | [] => 0
  | x :: r => uptoBulkEntry x + uptoBulkEntries r
def uptoBulkEntry {H : Type} : Lit × DataW H → Nat
  | (.string bytes, d) => bytes.length + uptoBulk d + 1
  | (_, d) => uptoBulk d + 1
 end
def uptoSmall : (H : Type) → List (DataW H) → Bool := fun _ ds => decide (uptoBulkAll ds ≤ 1048576)
def OpenSpec.upto (s : _root_.Go.ChangeSpec) : _root_.Go.OpenSpec := { _root_.Go.OpenSpec.ofChange s with cond := some uptoSmall }

/-- 'hachurelaw09.ColourBands', WHERE WHAT IT READS IS OF BULK AT MOST 1048576: true; the input reads as it did. -/
def colourBandsUptoRow : OpenClaim := { program := "ytpkhbbboedoldaa", sum := "715d5659d91b93650fbf92c68a1a5b986113c40a59a6faaf3cf3f522d23ae27d", func := "hachure/hachurelaw09.ColourBands", spec := "colourBands", unfollowed := true, recurses := true, plainKeys := false, apart := false, narrowed := true }
def ColourBandsUptoSaid : Prop := colourBandsUptoRow.holds Try.pinned (OpenSpec.upto colourBandsSpec)

/-- 'hachurelaw09.ColourPaints', WHERE WHAT IT READS IS OF BULK AT MOST 1048576: true; the input reads as it did. -/
def colourPaintsUptoRow : OpenClaim := { program := "ytpkhbbboedoldaa", sum := "715d5659d91b93650fbf92c68a1a5b986113c40a59a6faaf3cf3f522d23ae27d", func := "hachure/hachurelaw09.ColourPaints", spec := "colourPaints", unfollowed := true, recurses := true, plainKeys := false, apart := false, narrowed := true }
def ColourPaintsUptoSaid : Prop := colourPaintsUptoRow.holds Try.pinned (OpenSpec.upto colourPaintsSpec)

/-- 'hachurelaw09.ColourBest', WHERE WHAT IT READS IS OF BULK AT MOST 1048576: true; the input reads as it did. -/
def colourBestUptoRow : OpenClaim := { program := "ytpkhbbboedoldaa", sum := "715d5659d91b93650fbf92c68a1a5b986113c40a59a6faaf3cf3f522d23ae27d", func := "hachure/hachurelaw09.ColourBest", spec := "colourBest", unfollowed := true, recurses := true, plainKeys := false, apart := false, narrowed := true }
def ColourBestUptoSaid : Prop := colourBestUptoRow.holds Try.pinned (OpenSpec.upto colourBestSpec)

/-- 'hachurelaw09.ColourKnown', WHERE WHAT IT READS IS OF BULK AT MOST 1048576: true; the input reads as it did. -/
def colourKnownUptoRow : OpenClaim := { program := "ytpkhbbboedoldaa", sum := "715d5659d91b93650fbf92c68a1a5b986113c40a59a6faaf3cf3f522d23ae27d", func := "hachure/hachurelaw09.ColourKnown", spec := "colourKnown", unfollowed := true, recurses := true, plainKeys := false, apart := false, narrowed := true }
def ColourKnownUptoSaid : Prop := colourKnownUptoRow.holds Try.pinned (OpenSpec.upto colourKnownSpec)

/-- 'hachurelaw09.ColourTrue', WHERE WHAT IT READS IS OF BULK AT MOST 1048576: true; the input reads as it did. -/
def colourTrueUptoRow : OpenClaim := { program := "ytpkhbbboedoldaa", sum := "715d5659d91b93650fbf92c68a1a5b986113c40a59a6faaf3cf3f522d23ae27d", func := "hachure/hachurelaw09.ColourTrue", spec := "colourTrue", unfollowed := true, recurses := true, plainKeys := false, apart := false, narrowed := true }
def ColourTrueUptoSaid : Prop := colourTrueUptoRow.holds Try.pinned (OpenSpec.upto colourTrueSpec)

/-- 'hachurelaw09.ColourReached', WHERE WHAT IT READS IS OF BULK AT MOST 1048576: true; the input reads as it did. -/
def colourReachedUptoRow : OpenClaim := { program := "ytpkhbbboedoldaa", sum := "715d5659d91b93650fbf92c68a1a5b986113c40a59a6faaf3cf3f522d23ae27d", func := "hachure/hachurelaw09.ColourReached", spec := "colourReached", unfollowed := true, recurses := true, plainKeys := false, apart := false, narrowed := true }
def ColourReachedUptoSaid : Prop := colourReachedUptoRow.holds Try.pinned (OpenSpec.upto colourReachedSpec)

/-- 'hachurelaw09.ColourPainted', WHERE WHAT IT READS IS OF BULK AT MOST 1048576: true; the input reads as it did. -/
def colourPaintedUptoRow : OpenClaim := { program := "ytpkhbbboedoldaa", sum := "715d5659d91b93650fbf92c68a1a5b986113c40a59a6faaf3cf3f522d23ae27d", func := "hachure/hachurelaw09.ColourPainted", spec := "colourPainted", unfollowed := true, recurses := true, plainKeys := false, apart := false, narrowed := true }
def ColourPaintedUptoSaid : Prop := colourPaintedUptoRow.holds Try.pinned (OpenSpec.upto colourPaintedSpec)

/-- 'hachurelaw09.ColourFewest', WHERE WHAT IT READS IS OF BULK AT MOST 1048576: true; the input reads as it did. -/
def colourFewestUptoRow : OpenClaim := { program := "ytpkhbbboedoldaa", sum := "715d5659d91b93650fbf92c68a1a5b986113c40a59a6faaf3cf3f522d23ae27d", func := "hachure/hachurelaw09.ColourFewest", spec := "colourFewest", unfollowed := true, recurses := true, plainKeys := false, apart := false, narrowed := true }
def ColourFewestUptoSaid : Prop := colourFewestUptoRow.holds Try.pinned (OpenSpec.upto colourFewestSpec)

/-- 'hachurelaw09.ColourNamed', WHERE WHAT IT READS IS OF BULK AT MOST 1048576: true; the input reads as it did. -/
def colourNamedUptoRow : OpenClaim := { program := "ytpkhbbboedoldaa", sum := "715d5659d91b93650fbf92c68a1a5b986113c40a59a6faaf3cf3f522d23ae27d", func := "hachure/hachurelaw09.ColourNamed", spec := "colourNamed", unfollowed := true, recurses := true, plainKeys := false, apart := false, narrowed := true }
def ColourNamedUptoSaid : Prop := colourNamedUptoRow.holds Try.pinned (OpenSpec.upto colourNamedSpec)

/-- 'hachurelaw09.ColourLeast', WHERE WHAT IT READS IS OF BULK AT MOST 1048576: true; the input reads as it did. -/
def colourLeastUptoRow : OpenClaim := { program := "ytpkhbbboedoldaa", sum := "715d5659d91b93650fbf92c68a1a5b986113c40a59a6faaf3cf3f522d23ae27d", func := "hachure/hachurelaw09.ColourLeast", spec := "colourLeast", unfollowed := true, recurses := true, plainKeys := false, apart := false, narrowed := true }
def ColourLeastUptoSaid : Prop := colourLeastUptoRow.holds Try.pinned (OpenSpec.upto colourLeastSpec)

/-- 'hachurelaw09.ColourNarrower', WHERE WHAT IT READS IS OF BULK AT MOST 1048576: true; the input reads as it did. -/
def colourNarrowerUptoRow : OpenClaim := { program := "ytpkhbbboedoldaa", sum := "715d5659d91b93650fbf92c68a1a5b986113c40a59a6faaf3cf3f522d23ae27d", func := "hachure/hachurelaw09.ColourNarrower", spec := "colourNarrower", unfollowed := true, recurses := true, plainKeys := false, apart := false, narrowed := true }
def ColourNarrowerUptoSaid : Prop := colourNarrowerUptoRow.holds Try.pinned (OpenSpec.upto colourNarrowerSpec)

/-- 'hachurelaw09.ColourRaised', WHERE WHAT IT READS IS OF BULK AT MOST 1048576: true; the input reads as it did. -/
def colourRaisedUptoRow : OpenClaim := { program := "ytpkhbbboedoldaa", sum := "715d5659d91b93650fbf92c68a1a5b986113c40a59a6faaf3cf3f522d23ae27d", func := "hachure/hachurelaw09.ColourRaised", spec := "colourRaised", unfollowed := true, recurses := true, plainKeys := false, apart := false, narrowed := true }
def ColourRaisedUptoSaid : Prop := colourRaisedUptoRow.holds Try.pinned (OpenSpec.upto colourRaisedSpec)

/-- 'hachurelaw09.ColourInks', WHERE WHAT IT READS IS OF BULK AT MOST 1048576: true; the input reads as it did. -/
def colourInksUptoRow : OpenClaim := { program := "ytpkhbbboedoldaa", sum := "715d5659d91b93650fbf92c68a1a5b986113c40a59a6faaf3cf3f522d23ae27d", func := "hachure/hachurelaw09.ColourInks", spec := "colourInks", unfollowed := true, recurses := true, plainKeys := false, apart := false, narrowed := true }
def ColourInksUptoSaid : Prop := colourInksUptoRow.holds Try.pinned (OpenSpec.upto colourInksSpec)

/-- 'hachurelaw09.ColourTurned', WHERE WHAT IT READS IS OF BULK AT MOST 1048576: true; the input reads as it did. -/
def colourTurnedUptoRow : OpenClaim := { program := "ytpkhbbboedoldaa", sum := "715d5659d91b93650fbf92c68a1a5b986113c40a59a6faaf3cf3f522d23ae27d", func := "hachure/hachurelaw09.ColourTurned", spec := "colourTurned", unfollowed := true, recurses := true, plainKeys := false, apart := false, narrowed := true }
def ColourTurnedUptoSaid : Prop := colourTurnedUptoRow.holds Try.pinned (OpenSpec.upto colourTurnedSpec)

end Rows
end Go.Proofs.Ytpkhbbboedoldaa
