/-
  DERIVED. GIVEN WITH THE SEED: THE CARDS: each row of Qxb6500894aDoorRows.lean that lists a variable, with what it lists TIED to the program's text (the seventh form; the later family's looks); each row that meets fmt, with fmt's text TOLD by the authors' own Lean function (tested against real Go, not proved from fmt's source: count such statements apart). THE CARD IS WHAT COUNTS. Prove the row's statement (the work); the ties are given (Qxb6500894aDoorTie.lean); close each card by the builder's one call (the guide's Derived/Test/ToyasCard.lean, 'card_holds'). Laid BY PROGRAM, IN A SANDBOX (cutbox-door.mjs). By AI agents, Wed Nov 11 2026. No macro, syntax, notation, axiom, sorry.
-/
import Derived.Test.Qxb6500894aDoorRows
import GoSem.ClaimSeven
namespace Go.Proofs.Qxb6500894aDoor
namespace Rows

/-- THE TIED CARD OF 'recordlaw.ClassifierIsTotalWithFixedPriority'. -/
def classifierIsTotalWithFixedPriorityCard : Claim7 := { stood := { row := classifierIsTotalWithFixedPriorityRow, standIns := [], harness := (true, "02d84e289568f325a843d7cf1a96751e275464f39cd9eed83836763fdb765009"), looks := true }, kinds := [], alts := [], laidByText := true, laidKinds := [.data, .data, .pinned], laidTests := true, laidLooks := .later }
def ClassifierIsTotalWithFixedPriorityCardSaid : Prop := Claim7.holds Tryd.pinned (.plain (OpenSpec.ofChange classifierIsTotalWithFixedPrioritySpec)) classifierIsTotalWithFixedPriorityCard

/-- THE TIED CARD OF 'recordlaw.VerdictIgnoresOrder'. -/
def verdictIgnoresOrderCard : Claim7 := { stood := { row := verdictIgnoresOrderRow, standIns := [], harness := (true, "02d84e289568f325a843d7cf1a96751e275464f39cd9eed83836763fdb765009"), looks := true }, kinds := [], alts := [], laidByText := true, laidKinds := [.data, .data, .pinned], laidTests := true, laidLooks := .later }
def VerdictIgnoresOrderCardSaid : Prop := Claim7.holds Tryd.pinned (.plain (OpenSpec.ofChange verdictIgnoresOrderSpec)) verdictIgnoresOrderCard

/-- THE TIED CARD OF 'recordlaw.SpillRoundTrips'. -/
def spillRoundTripsCard : Claim7 := { stood := { row := spillRoundTripsRow, standIns := [], harness := (true, "02d84e289568f325a843d7cf1a96751e275464f39cd9eed83836763fdb765009"), looks := true }, kinds := [], alts := [], laidByText := true, laidKinds := [.data, .data, .sentinel, .pinned], laidTests := true, laidLooks := .later }
def SpillRoundTripsCardSaid : Prop := Claim7.holds Tryd.pinned (.plain (OpenSpec.ofChange spillRoundTripsSpec)) spillRoundTripsCard

/-- THE TIED CARD OF 'recordlaw.DecodersAcceptOnlyEncodings'. -/
def decodersAcceptOnlyEncodingsCard : Claim7 := { stood := { row := decodersAcceptOnlyEncodingsRow, standIns := [], harness := (true, "02d84e289568f325a843d7cf1a96751e275464f39cd9eed83836763fdb765009"), looks := true }, kinds := [], alts := [], laidByText := true, laidKinds := [.data, .data, .sentinel, .pinned], laidTests := true, laidLooks := .later }
def DecodersAcceptOnlyEncodingsCardSaid : Prop := Claim7.holds Tryd.pinned (.plain (OpenSpec.ofChange decodersAcceptOnlyEncodingsSpec)) decodersAcceptOnlyEncodingsCard

/-- THE TIED CARD OF 'recordlaw.ValidRecordsFitAFrame'. -/
def validRecordsFitAFrameCard : Claim7 := { stood := { row := validRecordsFitAFrameRow, standIns := [], harness := (true, "02d84e289568f325a843d7cf1a96751e275464f39cd9eed83836763fdb765009"), looks := true }, kinds := [], alts := [], laidByText := true, laidKinds := [.data, .data, .pinned], laidTests := true, laidLooks := .later }
def ValidRecordsFitAFrameCardSaid : Prop := Claim7.holds Tryd.pinned (.plain (OpenSpec.ofChange validRecordsFitAFrameSpec)) validRecordsFitAFrameCard

/-- THE TIED CARD OF 'recordlaw.RejectionRoundTrips'. -/
def rejectionRoundTripsCard : Claim7 := { stood := { row := rejectionRoundTripsRow, standIns := [], harness := (true, "02d84e289568f325a843d7cf1a96751e275464f39cd9eed83836763fdb765009"), looks := true }, kinds := [], alts := [], laidByText := true, laidKinds := [.sentinel], laidTests := true, laidLooks := .later }
def RejectionRoundTripsCardSaid : Prop := Claim7.holds Tryd.pinned (.plain (OpenSpec.ofChange rejectionRoundTripsSpec)) rejectionRoundTripsCard

/-- THE TIED CARD OF 'recordlaw.QuarantineIsExact'. -/
def quarantineIsExactCard : Claim7 := { stood := { row := quarantineIsExactRow, standIns := [], harness := (true, "02d84e289568f325a843d7cf1a96751e275464f39cd9eed83836763fdb765009"), looks := true }, kinds := [], alts := [], laidByText := true, laidKinds := [.data, .data, .sentinel, .sentinel, .sentinel, .pinned], laidTests := true, laidLooks := .later }
def QuarantineIsExactCardSaid : Prop := Claim7.holds Tryd.pinned (.plain (OpenSpec.ofChange quarantineIsExactSpec)) quarantineIsExactCard
end Rows
end Go.Proofs.Qxb6500894aDoor
