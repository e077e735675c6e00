import Derived.Test.Qxb6500896aGreatDoorRows
import Derived.Test.Qxb6500896aGreatDoorShJf
import Derived.ProofKit
namespace Go.Proofs.Qxb6500896aGreatDoor
open Go Go.RowKit
theorem jLaid : laidOutB Tryz.prog = true := by kernel_rfl
theorem jMaps : mapsRowed Tryz.prog = true := by kernel_rfl
theorem jStops : Tryz.prog.stops = [] := by kernel_rfl
theorem jKnobs : Tryz.prog.stopKnobs = [] := by kernel_rfl
theorem jKeys : Tryz.prog.plainKeys = true := by kernel_rfl
theorem jHeard : Tryz.prog.stopsHeard = true := by kernel_rfl
theorem jEnter : Tryz.prog.mayEnter = true := by kernel_rfl
theorem jLift : Tryz.prog.liftsFinal = Rows.recoveryReturnsRow.lifted := by kernel_rfl
theorem jMake : Tryz.prog.make = some Rows.recoveryReturnsRow.make := by kernel_rfl
end Go.Proofs.Qxb6500896aGreatDoor
