/-
  DERIVED. GIVEN WITH THE SEED: THE CARDS: each row of YtkcgfceihpampaaGreatDoorRows.lean that lists a variable, with what it lists TIED to the program's text (the seventh form; the later family's looks); each row that meets fmt, with fmt's text TOLD by the authors' own Lean function (tested against real Go, not proved from fmt's source: count such statements apart). THE CARD IS WHAT COUNTS. Prove the row's statement (the work); the ties are given (YtkcgfceihpampaaGreatDoorTie.lean); close each card by the builder's one call (the guide's Derived/Test/ToyasCard.lean, 'card_holds'). Laid BY PROGRAM, IN A SANDBOX (cutbox-door.mjs). By AI agents, Wed Nov 11 2026. No macro, syntax, notation, axiom, sorry.
-/
import Derived.Test.YtkcgfceihpampaaGreatDoorRows
import GoSem.ClaimSeven
namespace Go.Proofs.YtkcgfceihpampaaGreatDoor
namespace Rows

/-- THE TIED CARD OF 'hachuretop.TopCarved'. -/
def topCarvedCard : Claim7 := { stood := { row := topCarvedRow, standIns := [], harness := (true, "b73af0af3f181b2f590bcc6cd50c7f19a6d67d37c5a12bca7fdcc7e8cc8c526e"), looks := true }, kinds := [], alts := [], laidByText := true, laidKinds := [.data, .data, .data, .data, .sentinel, .sentinel, .pinned], laidTests := true, laidLooks := .later }
def TopCarvedCardSaid : Prop := Claim7.holds Tryz.pinned (.plain (OpenSpec.ofChange topCarvedSpec)) topCarvedCard

/-- THE TIED CARD OF 'hachuretop.TopPainted'. -/
def topPaintedCard : Claim7 := { stood := { row := topPaintedRow, standIns := [], harness := (true, "b73af0af3f181b2f590bcc6cd50c7f19a6d67d37c5a12bca7fdcc7e8cc8c526e"), looks := true }, kinds := [], alts := [], laidByText := true, laidKinds := [.data, .data, .data, .data, .sentinel, .sentinel, .pinned], laidTests := true, laidLooks := .later }
def TopPaintedCardSaid : Prop := Claim7.holds Tryz.pinned (.plain (OpenSpec.ofChange topPaintedSpec)) topPaintedCard

/-- THE TIED CARD OF 'hachuretop.TopAgree'. -/
def topAgreeCard : Claim7 := { stood := { row := topAgreeRow, standIns := [], harness := (true, "b73af0af3f181b2f590bcc6cd50c7f19a6d67d37c5a12bca7fdcc7e8cc8c526e"), looks := true }, kinds := [], alts := [], laidByText := true, laidKinds := [.data, .data, .data, .data, .sentinel, .sentinel, .pinned], laidTests := true, laidLooks := .later }
def TopAgreeCardSaid : Prop := Claim7.holds Tryz.pinned (.plain (OpenSpec.ofChange topAgreeSpec)) topAgreeCard

/-- THE SECOND FORM's CARD OF 'hachuretop.TopCarved'. -/
def topCarvedUptoCard : Claim7 := { stood := { row := topCarvedUptoRow, standIns := [], harness := (true, "b73af0af3f181b2f590bcc6cd50c7f19a6d67d37c5a12bca7fdcc7e8cc8c526e"), looks := true }, kinds := [], alts := [], laidByText := true, laidKinds := [.data, .data, .data, .data, .sentinel, .sentinel, .pinned], laidTests := true, laidLooks := .later }
def TopCarvedUptoCardSaid : Prop := Claim7.holds Tryz.pinned (.plain (OpenSpec.upto topCarvedSpec)) topCarvedUptoCard

/-- THE SECOND FORM's CARD OF 'hachuretop.TopPainted'. -/
def topPaintedUptoCard : Claim7 := { stood := { row := topPaintedUptoRow, standIns := [], harness := (true, "b73af0af3f181b2f590bcc6cd50c7f19a6d67d37c5a12bca7fdcc7e8cc8c526e"), looks := true }, kinds := [], alts := [], laidByText := true, laidKinds := [.data, .data, .data, .data, .sentinel, .sentinel, .pinned], laidTests := true, laidLooks := .later }
def TopPaintedUptoCardSaid : Prop := Claim7.holds Tryz.pinned (.plain (OpenSpec.upto topPaintedSpec)) topPaintedUptoCard

/-- THE SECOND FORM's CARD OF 'hachuretop.TopAgree'. -/
def topAgreeUptoCard : Claim7 := { stood := { row := topAgreeUptoRow, standIns := [], harness := (true, "b73af0af3f181b2f590bcc6cd50c7f19a6d67d37c5a12bca7fdcc7e8cc8c526e"), looks := true }, kinds := [], alts := [], laidByText := true, laidKinds := [.data, .data, .data, .data, .sentinel, .sentinel, .pinned], laidTests := true, laidLooks := .later }
def TopAgreeUptoCardSaid : Prop := Claim7.holds Tryz.pinned (.plain (OpenSpec.upto topAgreeSpec)) topAgreeUptoCard
end Rows
end Go.Proofs.YtkcgfceihpampaaGreatDoor
