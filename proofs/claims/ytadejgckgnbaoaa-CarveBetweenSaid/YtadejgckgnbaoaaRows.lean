/-
  No cell of these rows narrows 'for every input' (looked for: loops, veiled, ifaces, maps, wideKeys, modest, calm, conditions, laid).
  DERIVED. THE GIVEN ROWS OF THIS SEAT. 13 by the template 'for every input the law returns true; each argument reads behind the call as it read before'; 0 by the template 'total and deterministic' (their statements: YtadejgckgnbaoaaTotals.lean).
  GIVEN WITH THE SEED: the statements are not yours to turn. If you find one false, say at which input.
  Laid BY PROGRAM, IN A SANDBOX (cutbox-rows.mjs): the forced cells as the released guide's own fill.sh prints them over the translation f7a6b516f57c6b22… (all of the seat's roots in one cut). By AI agents, Wed Nov 11 2026. No macro, syntax, notation, axiom, sorry.
-/
import Derived.Test.YtadejgckgnbaoaaChecked
import GoSem.Claim
import GoSem.ClaimJoined
import GoSem.ClaimMapViews
import Derived.JoinedTies
import Derived.KernelRfl
namespace Go.Proofs.Ytadejgckgnbaoaa
/- THE CELL 'sum', in the pinned program and in every row, IS THE sha256 OF THE DUMP (.gsa) THAT YtadejgckgnbaoaaProg.lean LOADS. Nothing in Lean hashes anything: it is a label: what it is worth is what the hold of that sum in a sandbox is worth. -/
noncomputable def Try.pinned : Pinned := { name := "ytadejgckgnbaoaa", sum := "f7a6b516f57c6b2265181f095f3a3954047490293362196a166d7075ddcd215a", checked := Try.checked }
namespace Rows
def none {H : Type} : Left H := { results := [], args := [] }

/-- 'hachurelaw04.CarveBounds': WHATEVER THE INPUT: true; the input reads as it did. -/
def carveBoundsSpec : ChangeSpec := { name := "carveBounds", fn := fun _ => fun
  | [d] => { results := [.lit (.bool true)], args := [d] }
  | _ => none }
def carveBoundsRow : OpenClaim := { program := "ytadejgckgnbaoaa", sum := "f7a6b516f57c6b2265181f095f3a3954047490293362196a166d7075ddcd215a", func := "hachure/hachurelaw04.CarveBounds", spec := "carveBounds", unfollowed := true, recurses := true, plainKeys := false, apart := false }
def CarveBoundsSaid : Prop := carveBoundsRow.holds Try.pinned (OpenSpec.ofChange carveBoundsSpec)

/-- ITS FALSE NEIGHBOUR: 'it returns false'. Refute it at one input. -/
def carveBoundsWrong : ChangeSpec := { name := "carveBounds", fn := fun _ => fun
  | [d] => { results := [.lit (.bool false)], args := [d] }
  | _ => none }
def CarveBoundsWrongFalsely : Prop := carveBoundsRow.holds Try.pinned (OpenSpec.ofChange carveBoundsWrong)

/-- 'hachurelaw04.CarveCuts': WHATEVER THE INPUT: true; the input reads as it did. -/
def carveCutsSpec : ChangeSpec := { name := "carveCuts", fn := fun _ => fun
  | [d1, d2, d3] => { results := [.lit (.bool true)], args := [d1, d2, d3] }
  | _ => none }
def carveCutsRow : OpenClaim := { program := "ytadejgckgnbaoaa", sum := "f7a6b516f57c6b2265181f095f3a3954047490293362196a166d7075ddcd215a", func := "hachure/hachurelaw04.CarveCuts", spec := "carveCuts", unfollowed := true, recurses := true, plainKeys := false, apart := false }
def CarveCutsSaid : Prop := carveCutsRow.holds Try.pinned (OpenSpec.ofChange carveCutsSpec)

/-- ITS FALSE NEIGHBOUR: 'it returns false'. Refute it at one input. -/
def carveCutsWrong : ChangeSpec := { name := "carveCuts", fn := fun _ => fun
  | [d1, d2, d3] => { results := [.lit (.bool false)], args := [d1, d2, d3] }
  | _ => none }
def CarveCutsWrongFalsely : Prop := carveCutsRow.holds Try.pinned (OpenSpec.ofChange carveCutsWrong)

/-- 'hachurelaw04.CarveBest': WHATEVER THE INPUT: true; the input reads as it did. -/
def carveBestSpec : ChangeSpec := { name := "carveBest", fn := fun _ => fun
  | [d] => { results := [.lit (.bool true)], args := [d] }
  | _ => none }
def carveBestRow : OpenClaim := { program := "ytadejgckgnbaoaa", sum := "f7a6b516f57c6b2265181f095f3a3954047490293362196a166d7075ddcd215a", func := "hachure/hachurelaw04.CarveBest", spec := "carveBest", unfollowed := true, recurses := true, plainKeys := false, apart := false }
def CarveBestSaid : Prop := carveBestRow.holds Try.pinned (OpenSpec.ofChange carveBestSpec)

/-- ITS FALSE NEIGHBOUR: 'it returns false'. Refute it at one input. -/
def carveBestWrong : ChangeSpec := { name := "carveBest", fn := fun _ => fun
  | [d] => { results := [.lit (.bool false)], args := [d] }
  | _ => none }
def CarveBestWrongFalsely : Prop := carveBestRow.holds Try.pinned (OpenSpec.ofChange carveBestWrong)

/-- 'hachurelaw04.CarveKnown': WHATEVER THE INPUT: true; the input reads as it did. -/
def carveKnownSpec : ChangeSpec := { name := "carveKnown", fn := fun _ => fun
  | [] => { results := [.lit (.bool true)], args := [] }
  | _ => none }
def carveKnownRow : OpenClaim := { program := "ytadejgckgnbaoaa", sum := "f7a6b516f57c6b2265181f095f3a3954047490293362196a166d7075ddcd215a", func := "hachure/hachurelaw04.CarveKnown", spec := "carveKnown", unfollowed := true, recurses := true, plainKeys := false, apart := false }
def CarveKnownSaid : Prop := carveKnownRow.holds Try.pinned (OpenSpec.ofChange carveKnownSpec)

/-- ITS FALSE NEIGHBOUR: 'it returns false'. Refute it at one input. -/
def carveKnownWrong : ChangeSpec := { name := "carveKnown", fn := fun _ => fun
  | [] => { results := [.lit (.bool false)], args := [] }
  | _ => none }
def CarveKnownWrongFalsely : Prop := carveKnownRow.holds Try.pinned (OpenSpec.ofChange carveKnownWrong)

/-- 'hachurelaw04.CarveBetween': WHATEVER THE INPUT: true; the input reads as it did. -/
def carveBetweenSpec : ChangeSpec := { name := "carveBetween", fn := fun _ => fun
  | [d1, d2, d3] => { results := [.lit (.bool true)], args := [d1, d2, d3] }
  | _ => none }
def carveBetweenRow : OpenClaim := { program := "ytadejgckgnbaoaa", sum := "f7a6b516f57c6b2265181f095f3a3954047490293362196a166d7075ddcd215a", func := "hachure/hachurelaw04.CarveBetween", spec := "carveBetween", unfollowed := true, recurses := true, plainKeys := false, apart := false }
def CarveBetweenSaid : Prop := carveBetweenRow.holds Try.pinned (OpenSpec.ofChange carveBetweenSpec)

/-- ITS FALSE NEIGHBOUR: 'it returns false'. Refute it at one input. -/
def carveBetweenWrong : ChangeSpec := { name := "carveBetween", fn := fun _ => fun
  | [d1, d2, d3] => { results := [.lit (.bool false)], args := [d1, d2, d3] }
  | _ => none }
def CarveBetweenWrongFalsely : Prop := carveBetweenRow.holds Try.pinned (OpenSpec.ofChange carveBetweenWrong)

/-- 'hachurelaw04.CarvePrevents': WHATEVER THE INPUT: true; the input reads as it did. -/
def carvePreventsSpec : ChangeSpec := { name := "carvePrevents", fn := fun _ => fun
  | [d1, d2] => { results := [.lit (.bool true)], args := [d1, d2] }
  | _ => none }
def carvePreventsRow : OpenClaim := { program := "ytadejgckgnbaoaa", sum := "f7a6b516f57c6b2265181f095f3a3954047490293362196a166d7075ddcd215a", func := "hachure/hachurelaw04.CarvePrevents", spec := "carvePrevents", unfollowed := true, recurses := true, plainKeys := false, apart := false }
def CarvePreventsSaid : Prop := carvePreventsRow.holds Try.pinned (OpenSpec.ofChange carvePreventsSpec)

/-- ITS FALSE NEIGHBOUR: 'it returns false'. Refute it at one input. -/
def carvePreventsWrong : ChangeSpec := { name := "carvePrevents", fn := fun _ => fun
  | [d1, d2] => { results := [.lit (.bool false)], args := [d1, d2] }
  | _ => none }
def CarvePreventsWrongFalsely : Prop := carvePreventsRow.holds Try.pinned (OpenSpec.ofChange carvePreventsWrong)

/-- 'hachurelaw04.CarveLeast': WHATEVER THE INPUT: true; the input reads as it did. -/
def carveLeastSpec : ChangeSpec := { name := "carveLeast", fn := fun _ => fun
  | [d1, d2] => { results := [.lit (.bool true)], args := [d1, d2] }
  | _ => none }
def carveLeastRow : OpenClaim := { program := "ytadejgckgnbaoaa", sum := "f7a6b516f57c6b2265181f095f3a3954047490293362196a166d7075ddcd215a", func := "hachure/hachurelaw04.CarveLeast", spec := "carveLeast", unfollowed := true, recurses := true, plainKeys := false, apart := false }
def CarveLeastSaid : Prop := carveLeastRow.holds Try.pinned (OpenSpec.ofChange carveLeastSpec)

/-- ITS FALSE NEIGHBOUR: 'it returns false'. Refute it at one input. -/
def carveLeastWrong : ChangeSpec := { name := "carveLeast", fn := fun _ => fun
  | [d1, d2] => { results := [.lit (.bool false)], args := [d1, d2] }
  | _ => none }
def CarveLeastWrongFalsely : Prop := carveLeastRow.holds Try.pinned (OpenSpec.ofChange carveLeastWrong)

/-- 'hachurelaw04.CarvePasses': WHATEVER THE INPUT: true; the input reads as it did. -/
def carvePassesSpec : ChangeSpec := { name := "carvePasses", fn := fun _ => fun
  | [d1, d2] => { results := [.lit (.bool true)], args := [d1, d2] }
  | _ => none }
def carvePassesRow : OpenClaim := { program := "ytadejgckgnbaoaa", sum := "f7a6b516f57c6b2265181f095f3a3954047490293362196a166d7075ddcd215a", func := "hachure/hachurelaw04.CarvePasses", spec := "carvePasses", unfollowed := true, recurses := true, plainKeys := false, apart := false }
def CarvePassesSaid : Prop := carvePassesRow.holds Try.pinned (OpenSpec.ofChange carvePassesSpec)

/-- ITS FALSE NEIGHBOUR: 'it returns false'. Refute it at one input. -/
def carvePassesWrong : ChangeSpec := { name := "carvePasses", fn := fun _ => fun
  | [d1, d2] => { results := [.lit (.bool false)], args := [d1, d2] }
  | _ => none }
def CarvePassesWrongFalsely : Prop := carvePassesRow.holds Try.pinned (OpenSpec.ofChange carvePassesWrong)

/-- 'hachurelaw04.CarveSteeper': WHATEVER THE INPUT: true; the input reads as it did. -/
def carveSteeperSpec : ChangeSpec := { name := "carveSteeper", fn := fun _ => fun
  | [d1, d2] => { results := [.lit (.bool true)], args := [d1, d2] }
  | _ => none }
def carveSteeperRow : OpenClaim := { program := "ytadejgckgnbaoaa", sum := "f7a6b516f57c6b2265181f095f3a3954047490293362196a166d7075ddcd215a", func := "hachure/hachurelaw04.CarveSteeper", spec := "carveSteeper", unfollowed := true, recurses := true, plainKeys := false, apart := false }
def CarveSteeperSaid : Prop := carveSteeperRow.holds Try.pinned (OpenSpec.ofChange carveSteeperSpec)

/-- ITS FALSE NEIGHBOUR: 'it returns false'. Refute it at one input. -/
def carveSteeperWrong : ChangeSpec := { name := "carveSteeper", fn := fun _ => fun
  | [d1, d2] => { results := [.lit (.bool false)], args := [d1, d2] }
  | _ => none }
def CarveSteeperWrongFalsely : Prop := carveSteeperRow.holds Try.pinned (OpenSpec.ofChange carveSteeperWrong)

/-- 'hachurelaw04.CarveWider': WHATEVER THE INPUT: true; the input reads as it did. -/
def carveWiderSpec : ChangeSpec := { name := "carveWider", fn := fun _ => fun
  | [d1, d2] => { results := [.lit (.bool true)], args := [d1, d2] }
  | _ => none }
def carveWiderRow : OpenClaim := { program := "ytadejgckgnbaoaa", sum := "f7a6b516f57c6b2265181f095f3a3954047490293362196a166d7075ddcd215a", func := "hachure/hachurelaw04.CarveWider", spec := "carveWider", unfollowed := true, recurses := true, plainKeys := false, apart := false }
def CarveWiderSaid : Prop := carveWiderRow.holds Try.pinned (OpenSpec.ofChange carveWiderSpec)

/-- ITS FALSE NEIGHBOUR: 'it returns false'. Refute it at one input. -/
def carveWiderWrong : ChangeSpec := { name := "carveWider", fn := fun _ => fun
  | [d1, d2] => { results := [.lit (.bool false)], args := [d1, d2] }
  | _ => none }
def CarveWiderWrongFalsely : Prop := carveWiderRow.holds Try.pinned (OpenSpec.ofChange carveWiderWrong)

/-- 'hachurelaw04.CarveTurned': WHATEVER THE INPUT: true; the input reads as it did. -/
def carveTurnedSpec : ChangeSpec := { name := "carveTurned", fn := fun _ => fun
  | [d] => { results := [.lit (.bool true)], args := [d] }
  | _ => none }
def carveTurnedRow : OpenClaim := { program := "ytadejgckgnbaoaa", sum := "f7a6b516f57c6b2265181f095f3a3954047490293362196a166d7075ddcd215a", func := "hachure/hachurelaw04.CarveTurned", spec := "carveTurned", unfollowed := true, recurses := true, plainKeys := false, apart := false }
def CarveTurnedSaid : Prop := carveTurnedRow.holds Try.pinned (OpenSpec.ofChange carveTurnedSpec)

/-- ITS FALSE NEIGHBOUR: 'it returns false'. Refute it at one input. -/
def carveTurnedWrong : ChangeSpec := { name := "carveTurned", fn := fun _ => fun
  | [d] => { results := [.lit (.bool false)], args := [d] }
  | _ => none }
def CarveTurnedWrongFalsely : Prop := carveTurnedRow.holds Try.pinned (OpenSpec.ofChange carveTurnedWrong)

/-- 'hachurelaw04.CarveRaised': WHATEVER THE INPUT: true; the input reads as it did. -/
def carveRaisedSpec : ChangeSpec := { name := "carveRaised", fn := fun _ => fun
  | [d1, d2] => { results := [.lit (.bool true)], args := [d1, d2] }
  | _ => none }
def carveRaisedRow : OpenClaim := { program := "ytadejgckgnbaoaa", sum := "f7a6b516f57c6b2265181f095f3a3954047490293362196a166d7075ddcd215a", func := "hachure/hachurelaw04.CarveRaised", spec := "carveRaised", unfollowed := true, recurses := true, plainKeys := false, apart := false }
def CarveRaisedSaid : Prop := carveRaisedRow.holds Try.pinned (OpenSpec.ofChange carveRaisedSpec)

/-- ITS FALSE NEIGHBOUR: 'it returns false'. Refute it at one input. -/
def carveRaisedWrong : ChangeSpec := { name := "carveRaised", fn := fun _ => fun
  | [d1, d2] => { results := [.lit (.bool false)], args := [d1, d2] }
  | _ => none }
def CarveRaisedWrongFalsely : Prop := carveRaisedRow.holds Try.pinned (OpenSpec.ofChange carveRaisedWrong)

/-- 'hachurelaw04.CarveParted': WHATEVER THE INPUT: true; the input reads as it did. -/
def carvePartedSpec : ChangeSpec := { name := "carveParted", fn := fun _ => fun
  | [d1, d2] => { results := [.lit (.bool true)], args := [d1, d2] }
  | _ => none }
def carvePartedRow : OpenClaim := { program := "ytadejgckgnbaoaa", sum := "f7a6b516f57c6b2265181f095f3a3954047490293362196a166d7075ddcd215a", func := "hachure/hachurelaw04.CarveParted", spec := "carveParted", unfollowed := true, recurses := true, plainKeys := false, apart := false }
def CarvePartedSaid : Prop := carvePartedRow.holds Try.pinned (OpenSpec.ofChange carvePartedSpec)

/-- ITS FALSE NEIGHBOUR: 'it returns false'. Refute it at one input. -/
def carvePartedWrong : ChangeSpec := { name := "carveParted", fn := fun _ => fun
  | [d1, d2] => { results := [.lit (.bool false)], args := [d1, d2] }
  | _ => none }
def CarvePartedWrongFalsely : Prop := carvePartedRow.holds Try.pinned (OpenSpec.ofChange carvePartedWrong)

/- THE SECOND FORM. 'bulk': how many values and letters a reading holds, each counted each time it is reached (what is shared counts as often as it is met; a slice's spare places count too). A statement '..UptoSaid' is the law's where the arguments, and the package variables that the reading takes, are together of bulk at most 1048576: NARROWER than '..Said'. Prove '..Said' where nothing that the law and all that it calls make is longer than what came in: it says more and counts as full. Else prove '..UptoSaid'. A law counts once. -/
mutual
def uptoBulk {H : Type} : DataW H → Nat
  | .lit (.string bytes) => bytes.length + 1
  | .lit _ => 1
  | .nil => 1
  | .ptr d => uptoBulk d + 1
  | .slice elems spare => uptoBulkAll elems + uptoBulkAll spare + 1
  | .agg parts => uptoBulkAll parts + 1
  | .iface _ d => uptoBulk d + 1
  | .map entries => uptoBulkEntries entries + 1
  | .held _ => 1
def uptoBulkAll {H : Type} : List (DataW H) → Nat
  | [] => 0
  | d :: r => uptoBulk d + uptoBulkAll r
def uptoBulkEntries {H : Type} : List (Lit × DataW H) → Nat
  | [] => 0
  | x :: r => uptoBulkEntry x + uptoBulkEntries r
def uptoBulkEntry {H : Type} : Lit × DataW H → Nat
  | (.string bytes, d) => bytes.length + uptoBulk d + 1
  | (_, d) => uptoBulk d + 1
 end
def uptoSmall : (H : Type) → List (DataW H) → Bool := fun _ ds => decide (uptoBulkAll ds ≤ 1048576)
def OpenSpec.upto (s : _root_.Go.ChangeSpec) : _root_.Go.OpenSpec := { _root_.Go.OpenSpec.ofChange s with cond := some uptoSmall }

/-- 'hachurelaw04.CarveBounds', WHERE WHAT IT READS IS OF BULK AT MOST 1048576: true; the input reads as it did. -/
def carveBoundsUptoRow : OpenClaim := { program := "ytadejgckgnbaoaa", sum := "f7a6b516f57c6b2265181f095f3a3954047490293362196a166d7075ddcd215a", func := "hachure/hachurelaw04.CarveBounds", spec := "carveBounds", unfollowed := true, recurses := true, plainKeys := false, apart := false, narrowed := true }
def CarveBoundsUptoSaid : Prop := carveBoundsUptoRow.holds Try.pinned (OpenSpec.upto carveBoundsSpec)

/-- 'hachurelaw04.CarveCuts', WHERE WHAT IT READS IS OF BULK AT MOST 1048576: true; the input reads as it did. -/
def carveCutsUptoRow : OpenClaim := { program := "ytadejgckgnbaoaa", sum := "f7a6b516f57c6b2265181f095f3a3954047490293362196a166d7075ddcd215a", func := "hachure/hachurelaw04.CarveCuts", spec := "carveCuts", unfollowed := true, recurses := true, plainKeys := false, apart := false, narrowed := true }
def CarveCutsUptoSaid : Prop := carveCutsUptoRow.holds Try.pinned (OpenSpec.upto carveCutsSpec)

/-- 'hachurelaw04.CarveBest', WHERE WHAT IT READS IS OF BULK AT MOST 1048576: true; the input reads as it did. -/
def carveBestUptoRow : OpenClaim := { program := "ytadejgckgnbaoaa", sum := "f7a6b516f57c6b2265181f095f3a3954047490293362196a166d7075ddcd215a", func := "hachure/hachurelaw04.CarveBest", spec := "carveBest", unfollowed := true, recurses := true, plainKeys := false, apart := false, narrowed := true }
def CarveBestUptoSaid : Prop := carveBestUptoRow.holds Try.pinned (OpenSpec.upto carveBestSpec)

/-- 'hachurelaw04.CarveKnown', WHERE WHAT IT READS IS OF BULK AT MOST 1048576: true; the input reads as it did. -/
def carveKnownUptoRow : OpenClaim := { program := "ytadejgckgnbaoaa", sum := "f7a6b516f57c6b2265181f095f3a3954047490293362196a166d7075ddcd215a", func := "hachure/hachurelaw04.CarveKnown", spec := "carveKnown", unfollowed := true, recurses := true, plainKeys := false, apart := false, narrowed := true }
def CarveKnownUptoSaid : Prop := carveKnownUptoRow.holds Try.pinned (OpenSpec.upto carveKnownSpec)

/-- 'hachurelaw04.CarveBetween', WHERE WHAT IT READS IS OF BULK AT MOST 1048576: true; the input reads as it did. -/
def carveBetweenUptoRow : OpenClaim := { program := "ytadejgckgnbaoaa", sum := "f7a6b516f57c6b2265181f095f3a3954047490293362196a166d7075ddcd215a", func := "hachure/hachurelaw04.CarveBetween", spec := "carveBetween", unfollowed := true, recurses := true, plainKeys := false, apart := false, narrowed := true }
def CarveBetweenUptoSaid : Prop := carveBetweenUptoRow.holds Try.pinned (OpenSpec.upto carveBetweenSpec)

/-- 'hachurelaw04.CarvePrevents', WHERE WHAT IT READS IS OF BULK AT MOST 1048576: true; the input reads as it did. -/
def carvePreventsUptoRow : OpenClaim := { program := "ytadejgckgnbaoaa", sum := "f7a6b516f57c6b2265181f095f3a3954047490293362196a166d7075ddcd215a", func := "hachure/hachurelaw04.CarvePrevents", spec := "carvePrevents", unfollowed := true, recurses := true, plainKeys := false, apart := false, narrowed := true }
def CarvePreventsUptoSaid : Prop := carvePreventsUptoRow.holds Try.pinned (OpenSpec.upto carvePreventsSpec)

/-- 'hachurelaw04.CarveLeast', WHERE WHAT IT READS IS OF BULK AT MOST 1048576: true; the input reads as it did. -/
def carveLeastUptoRow : OpenClaim := { program := "ytadejgckgnbaoaa", sum := "f7a6b516f57c6b2265181f095f3a3954047490293362196a166d7075ddcd215a", func := "hachure/hachurelaw04.CarveLeast", spec := "carveLeast", unfollowed := true, recurses := true, plainKeys := false, apart := false, narrowed := true }
def CarveLeastUptoSaid : Prop := carveLeastUptoRow.holds Try.pinned (OpenSpec.upto carveLeastSpec)

/-- 'hachurelaw04.CarvePasses', WHERE WHAT IT READS IS OF BULK AT MOST 1048576: true; the input reads as it did. -/
def carvePassesUptoRow : OpenClaim := { program := "ytadejgckgnbaoaa", sum := "f7a6b516f57c6b2265181f095f3a3954047490293362196a166d7075ddcd215a", func := "hachure/hachurelaw04.CarvePasses", spec := "carvePasses", unfollowed := true, recurses := true, plainKeys := false, apart := false, narrowed := true }
def CarvePassesUptoSaid : Prop := carvePassesUptoRow.holds Try.pinned (OpenSpec.upto carvePassesSpec)

/-- 'hachurelaw04.CarveSteeper', WHERE WHAT IT READS IS OF BULK AT MOST 1048576: true; the input reads as it did. -/
def carveSteeperUptoRow : OpenClaim := { program := "ytadejgckgnbaoaa", sum := "f7a6b516f57c6b2265181f095f3a3954047490293362196a166d7075ddcd215a", func := "hachure/hachurelaw04.CarveSteeper", spec := "carveSteeper", unfollowed := true, recurses := true, plainKeys := false, apart := false, narrowed := true }
def CarveSteeperUptoSaid : Prop := carveSteeperUptoRow.holds Try.pinned (OpenSpec.upto carveSteeperSpec)

/-- 'hachurelaw04.CarveWider', WHERE WHAT IT READS IS OF BULK AT MOST 1048576: true; the input reads as it did. -/
def carveWiderUptoRow : OpenClaim := { program := "ytadejgckgnbaoaa", sum := "f7a6b516f57c6b2265181f095f3a3954047490293362196a166d7075ddcd215a", func := "hachure/hachurelaw04.CarveWider", spec := "carveWider", unfollowed := true, recurses := true, plainKeys := false, apart := false, narrowed := true }
def CarveWiderUptoSaid : Prop := carveWiderUptoRow.holds Try.pinned (OpenSpec.upto carveWiderSpec)

/-- 'hachurelaw04.CarveTurned', WHERE WHAT IT READS IS OF BULK AT MOST 1048576: true; the input reads as it did. -/
def carveTurnedUptoRow : OpenClaim := { program := "ytadejgckgnbaoaa", sum := "f7a6b516f57c6b2265181f095f3a3954047490293362196a166d7075ddcd215a", func := "hachure/hachurelaw04.CarveTurned", spec := "carveTurned", unfollowed := true, recurses := true, plainKeys := false, apart := false, narrowed := true }
def CarveTurnedUptoSaid : Prop := carveTurnedUptoRow.holds Try.pinned (OpenSpec.upto carveTurnedSpec)

/-- 'hachurelaw04.CarveRaised', WHERE WHAT IT READS IS OF BULK AT MOST 1048576: true; the input reads as it did. -/
def carveRaisedUptoRow : OpenClaim := { program := "ytadejgckgnbaoaa", sum := "f7a6b516f57c6b2265181f095f3a3954047490293362196a166d7075ddcd215a", func := "hachure/hachurelaw04.CarveRaised", spec := "carveRaised", unfollowed := true, recurses := true, plainKeys := false, apart := false, narrowed := true }
def CarveRaisedUptoSaid : Prop := carveRaisedUptoRow.holds Try.pinned (OpenSpec.upto carveRaisedSpec)

/-- 'hachurelaw04.CarveParted', WHERE WHAT IT READS IS OF BULK AT MOST 1048576: true; the input reads as it did. -/
def carvePartedUptoRow : OpenClaim := { program := "ytadejgckgnbaoaa", sum := "f7a6b516f57c6b2265181f095f3a3954047490293362196a166d7075ddcd215a", func := "hachure/hachurelaw04.CarveParted", spec := "carveParted", unfollowed := true, recurses := true, plainKeys := false, apart := false, narrowed := true }
def CarvePartedUptoSaid : Prop := carvePartedUptoRow.holds Try.pinned (OpenSpec.upto carvePartedSpec)

end Rows
end Go.Proofs.Ytadejgckgnbaoaa
