/-
  DERIVED. GIVEN WITH THE SEED: THE CARDS: each row of Qxb6500893aDoorRows.lean that lists a variable, with what it lists TIED to the program's text (the seventh form; the later family's looks); each row that meets fmt, with fmt's text TOLD by the authors' own Lean function (tested against real Go, not proved from fmt's source: count such statements apart). THE CARD IS WHAT COUNTS. Prove the row's statement (the work); the ties are given (Qxb6500893aDoorTie.lean); close each card by the builder's one call (the guide's Derived/Test/ToyasCard.lean, 'card_holds'). Laid BY PROGRAM, IN A SANDBOX (cutbox-door.mjs). By AI agents, Wed Nov 11 2026. No macro, syntax, notation, axiom, sorry.
-/
import Derived.Test.Qxb6500893aDoorRows
import GoSem.ClaimSeven
namespace Go.Proofs.Qxb6500893aDoor
namespace Rows

/-- THE TIED CARD OF 'poollaw.Refines'. -/
def refinesCard : Claim7 := { stood := { row := refinesRow, standIns := [], harness := (true, "ac197cb4f61796b60434aa9a0c27a321edc23f3e354f0844b98a00032639b1f9"), looks := false }, kinds := [], alts := [], laidByText := true, laidKinds := [.data], laidTests := true, laidLooks := .later }
def RefinesCardSaid : Prop := Claim7.holds Tryd.pinned (.plain (OpenSpec.ofChange refinesSpec)) refinesCard

/-- THE TIED CARD OF 'poollaw.FollowsTheSet'. -/
def followsTheSetCard : Claim7 := { stood := { row := followsTheSetRow, standIns := [], harness := (true, "ac197cb4f61796b60434aa9a0c27a321edc23f3e354f0844b98a00032639b1f9"), looks := false }, kinds := [], alts := [], laidByText := true, laidKinds := [.data], laidTests := true, laidLooks := .later }
def FollowsTheSetCardSaid : Prop := Claim7.holds Tryd.pinned (.plain (OpenSpec.ofChange followsTheSetSpec)) followsTheSetCard

/-- THE TIED CARD OF 'poollaw.BoundedCost'. -/
def boundedCostCard : Claim7 := { stood := { row := boundedCostRow, standIns := [], harness := (true, "ac197cb4f61796b60434aa9a0c27a321edc23f3e354f0844b98a00032639b1f9"), looks := false }, kinds := [], alts := [], laidByText := true, laidKinds := [.data], laidTests := true, laidLooks := .later }
def BoundedCostCardSaid : Prop := Claim7.holds Tryd.pinned (.plain (OpenSpec.ofChange boundedCostSpec)) boundedCostCard

/-- THE TIED CARD OF 'poollaw.StaysInside'. -/
def staysInsideCard : Claim7 := { stood := { row := staysInsideRow, standIns := [], harness := (true, "ac197cb4f61796b60434aa9a0c27a321edc23f3e354f0844b98a00032639b1f9"), looks := false }, kinds := [], alts := [], laidByText := true, laidKinds := [.data], laidTests := true, laidLooks := .later }
def StaysInsideCardSaid : Prop := Claim7.holds Tryd.pinned (.plain (OpenSpec.ofChange staysInsideSpec)) staysInsideCard

/-- THE TIED CARD OF 'poollaw.KeepsContents'. -/
def keepsContentsCard : Claim7 := { stood := { row := keepsContentsRow, standIns := [], harness := (true, "ac197cb4f61796b60434aa9a0c27a321edc23f3e354f0844b98a00032639b1f9"), looks := false }, kinds := [], alts := [], laidByText := true, laidKinds := [.data], laidTests := true, laidLooks := .later }
def KeepsContentsCardSaid : Prop := Claim7.holds Tryd.pinned (.plain (OpenSpec.ofChange keepsContentsSpec)) keepsContentsCard

/-- THE TIED CARD OF 'poollaw.RefusalsChangeNothing'. -/
def refusalsChangeNothingCard : Claim7 := { stood := { row := refusalsChangeNothingRow, standIns := [], harness := (true, "ac197cb4f61796b60434aa9a0c27a321edc23f3e354f0844b98a00032639b1f9"), looks := false }, kinds := [], alts := [], laidByText := true, laidKinds := [.data], laidTests := true, laidLooks := .later }
def RefusalsChangeNothingCardSaid : Prop := Claim7.holds Tryd.pinned (.plain (OpenSpec.ofChange refusalsChangeNothingSpec)) refusalsChangeNothingCard

/-- THE TIED CARD OF 'poollaw.AuditStaysClean'. -/
def auditStaysCleanCard : Claim7 := { stood := { row := auditStaysCleanRow, standIns := [], harness := (true, "ac197cb4f61796b60434aa9a0c27a321edc23f3e354f0844b98a00032639b1f9"), looks := false }, kinds := [], alts := [], laidByText := true, laidKinds := [.data], laidTests := true, laidLooks := .later }
def AuditStaysCleanCardSaid : Prop := Claim7.holds Tryd.pinned (.plain (OpenSpec.ofChange auditStaysCleanSpec)) auditStaysCleanCard

/-- THE TIED CARD OF 'poollaw.SurvivesScribbles'. -/
def survivesScribblesCard : Claim7 := { stood := { row := survivesScribblesRow, standIns := [], harness := (true, "ac197cb4f61796b60434aa9a0c27a321edc23f3e354f0844b98a00032639b1f9"), looks := false }, kinds := [], alts := [], laidByText := true, laidKinds := [.data], laidTests := true, laidLooks := .later }
def SurvivesScribblesCardSaid : Prop := Claim7.holds Tryd.pinned (.plain (OpenSpec.ofChange survivesScribblesSpec)) survivesScribblesCard
end Rows
end Go.Proofs.Qxb6500893aDoor
