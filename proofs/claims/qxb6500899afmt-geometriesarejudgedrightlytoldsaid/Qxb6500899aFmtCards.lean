/-
  DERIVED. GIVEN WITH THE SEED: THE CARDS: each row of Qxb6500899aFmtRows.lean that lists a variable, with what it lists TIED to the program's text (the seventh form; the later family's looks); each row that meets fmt, with fmt's text TOLD by the authors' own Lean function (tested against real Go, not proved from fmt's source: count such statements apart). THE CARD IS WHAT COUNTS. Prove the row's statement (the work); the ties are given (Qxb6500899aFmtTie.lean); close each card by the builder's one call (the guide's Derived/Test/ToyasCard.lean, 'card_holds'). Laid BY PROGRAM, IN A SANDBOX (cutbox-door.mjs). By AI agents, Wed Nov 11 2026. No macro, syntax, notation, axiom, sorry.
-/
import Derived.Test.Qxb6500899aFmtRows
import GoSem.ClaimSeven
namespace Go.Proofs.Qxb6500899aFmt
namespace Rows

/-- THE TOLD AND TIED CARD OF 'disklaw.GeometriesAreJudgedRightly'. -/
def geometriesAreJudgedRightlyCard : Claim7 := { stood := { row := geometriesAreJudgedRightlyRow, standIns := [], harness := (true, "b059f069ac3a44b58d59fb6942c611b2afad5b60c0c1c4aa602fdae005497f24"), looks := true }, told := true, laidByText := true, laidKinds := [.handle], laidTests := true, laidLooks := .later, goes := false }
def GeometriesAreJudgedRightlyToldSaid : Prop := Claim7.holds Tryf.pinned (.plain (OpenSpec.ofChange geometriesAreJudgedRightlySpec)) geometriesAreJudgedRightlyCard
/-- ITS FALSE NEIGHBOUR. Refute it at one input. -/
def GeometriesAreJudgedRightlyToldWrongFalsely : Prop := Claim7.holds Tryf.pinned (.plain (OpenSpec.ofChange geometriesAreJudgedRightlyWrong)) geometriesAreJudgedRightlyCard
end Rows
end Go.Proofs.Qxb6500899aFmt
