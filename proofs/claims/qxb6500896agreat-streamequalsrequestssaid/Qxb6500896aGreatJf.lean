import Derived.Test.Qxb6500896aGreatRows
import Derived.Test.Qxb6500896aGreatShJf
import Derived.ProofKit
namespace Go.Proofs.Qxb6500896aGreat
open Go Go.RowKit
theorem jLaid : laidOutB Tryz.prog = true := by kernel_rfl
theorem jMaps : mapsRowed Tryz.prog = true := by kernel_rfl
theorem jStops : Tryz.prog.stops = [] := by kernel_rfl
theorem jKnobs : Tryz.prog.stopKnobs = [] := by kernel_rfl
theorem jKeys : Tryz.prog.plainKeys = true := by kernel_rfl
theorem jHeard : Tryz.prog.stopsHeard = true := by kernel_rfl
theorem jEnter : Tryz.prog.mayEnter = true := by kernel_rfl
theorem jLift : Tryz.prog.liftsFinal = Rows.configIsCheckedRow.lifted := by kernel_rfl
theorem jMake : Tryz.prog.make = some Rows.configIsCheckedRow.make := by kernel_rfl
end Go.Proofs.Qxb6500896aGreat
