/-
  DERIVED. GIVEN WITH THE SEED: THE CARDS: each row of Qxb6500896aGreatDoorRows.lean that lists a variable, with what it lists TIED to the program's text (the seventh form; the later family's looks); each row that meets fmt, with fmt's text TOLD by the authors' own Lean function (tested against real Go, not proved from fmt's source: count such statements apart). THE CARD IS WHAT COUNTS. Prove the row's statement (the work); the ties are given (Qxb6500896aGreatDoorTie.lean); close each card by the builder's one call (the guide's Derived/Test/ToyasCard.lean, 'card_holds'). Laid BY PROGRAM, IN A SANDBOX (cutbox-door.mjs). By AI agents, Wed Nov 11 2026. No macro, syntax, notation, axiom, sorry.
-/
import Derived.Test.Qxb6500896aGreatDoorRows
import GoSem.ClaimSeven
namespace Go.Proofs.Qxb6500896aGreatDoor
namespace Rows

/-- THE TIED CARD OF 'enginelaw.Conservation'. -/
def conservationCard : Claim7 := { stood := { row := conservationRow, standIns := [], harness := (true, "753ef42d3e99ff9f78c7c17f35d2d483b24bde330eea853b85b8609307a22823"), looks := true }, kinds := [], alts := [], laidByText := true, laidKinds := [.mapped], laidTests := true, laidLooks := .later }
def ConservationCardSaid : Prop := Claim7.holds Tryz.pinned (.plain (OpenSpec.ofChange conservationSpec)) conservationCard

/-- THE TIED CARD OF 'enginelaw.ReplayEqualsLive'. -/
def replayEqualsLiveCard : Claim7 := { stood := { row := replayEqualsLiveRow, standIns := [], harness := (true, "753ef42d3e99ff9f78c7c17f35d2d483b24bde330eea853b85b8609307a22823"), looks := true }, kinds := [], alts := [], laidByText := true, laidKinds := [.data], laidTests := true, laidLooks := .later }
def ReplayEqualsLiveCardSaid : Prop := Claim7.holds Tryz.pinned (.plain (OpenSpec.ofChange replayEqualsLiveSpec)) replayEqualsLiveCard

/-- THE TIED CARD OF 'enginelaw.CodecsRoundTrip'. -/
def codecsRoundTripCard : Claim7 := { stood := { row := codecsRoundTripRow, standIns := [], harness := (true, "753ef42d3e99ff9f78c7c17f35d2d483b24bde330eea853b85b8609307a22823"), looks := true }, kinds := [], alts := [], laidByText := true, laidKinds := [.data, .data], laidTests := true, laidLooks := .later }
def CodecsRoundTripCardSaid : Prop := Claim7.holds Tryz.pinned (.plain (OpenSpec.ofChange codecsRoundTripSpec)) codecsRoundTripCard

/-- THE TIED CARD OF 'enginelaw.RecoveryReturns'. -/
def recoveryReturnsCard : Claim7 := { stood := { row := recoveryReturnsRow, standIns := [], harness := (true, "753ef42d3e99ff9f78c7c17f35d2d483b24bde330eea853b85b8609307a22823"), looks := true }, kinds := [], alts := [], laidByText := true, laidKinds := [.data], laidTests := true, laidLooks := .later }
def RecoveryReturnsCardSaid : Prop := Claim7.holds Tryz.pinned (.plain (OpenSpec.ofChange recoveryReturnsSpec)) recoveryReturnsCard
end Rows
end Go.Proofs.Qxb6500896aGreatDoor
