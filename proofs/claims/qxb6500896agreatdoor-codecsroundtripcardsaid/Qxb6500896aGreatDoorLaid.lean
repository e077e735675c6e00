import Derived.Test.Qxb6500896aGreatDoorRows
import Derived.LaidLaws
import Derived.LaidHandle
import Derived.MakeChecks
namespace Go.Proofs.Qxb6500896aGreatDoor
open Go

theorem laid_own : ownKnob Tryz.prog.godebug = none := by kernel_rfl
def codeS : Array Value := #[.string ⟨#[111, 107]⟩, .string ⟨#[109, 97, 108, 102, 111, 114, 109, 101, 100, 32, 114, 101, 113, 117, 101, 115, 116]⟩, .string ⟨#[117, 110, 107, 110, 111, 119, 110, 32, 105, 100]⟩, .string ⟨#[115, 108, 111, 116, 32, 111, 117, 116, 115, 105, 100, 101, 32, 116, 104, 101, 32, 104, 111, 114, 105, 122, 111, 110]⟩, .string ⟨#[98, 97, 100, 32, 112, 97, 114, 116, 121, 32, 115, 105, 122, 101]⟩, .string ⟨#[99, 97, 112, 97, 99, 105, 116, 121, 32, 101, 120, 99, 101, 101, 100, 101, 100]⟩, .string ⟨#[113, 117, 111, 116, 97, 32, 101, 120, 99, 101, 101, 100, 101, 100]⟩, .string ⟨#[116, 114, 97, 110, 115, 102, 101, 114, 32, 110, 111, 116, 32, 102, 101, 97, 115, 105, 98, 108, 101]⟩, .string ⟨#[119, 114, 111, 110, 103, 32, 115, 116, 97, 116, 117, 115]⟩, .string ⟨#[98, 111, 111, 107, 105, 110, 103, 32, 116, 97, 98, 108, 101, 32, 102, 117, 108, 108]⟩, .string ⟨#[115, 116, 97, 110, 100, 98, 121, 32, 108, 105, 110, 101, 32, 102, 117, 108, 108]⟩, .string ⟨#[99, 108, 111, 99, 107, 32, 97, 116, 32, 105, 116, 115, 32, 101, 110, 100]⟩, .string ⟨#[117, 110, 107, 110, 111, 119, 110, 32, 99, 108, 97, 115, 115]⟩, .string ⟨#[117, 110, 107, 110, 111, 119, 110, 32, 97, 116, 116, 114, 97, 99, 116, 105, 111, 110]⟩, .string ⟨#[98, 97, 100, 32, 110, 117, 109, 98, 101, 114, 32, 111, 102, 32, 108, 101, 103, 115]⟩, .string ⟨#[116, 111, 111, 32, 101, 97, 114, 108, 121]⟩, .string ⟨#[116, 111, 111, 32, 108, 97, 116, 101]⟩, .string ⟨#[108, 111, 103, 32, 102, 117, 108, 108]⟩, .string ⟨#[116, 111, 111, 32, 108, 111, 110, 103, 32, 102, 111, 114, 32, 116, 104, 101, 32, 106, 111, 117, 114, 110, 97, 108]⟩, .string ⟨#[101, 110, 103, 105, 110, 101, 32, 100, 111, 119, 110]⟩, .string ⟨#[106, 111, 117, 114, 110, 97, 108, 32, 99, 111, 114, 114, 117, 112, 116]⟩, .string ⟨#[98, 97, 100, 32, 99, 111, 110, 102, 105, 103, 117, 114, 97, 116, 105, 111, 110]⟩, .string ⟨#[110, 111, 32, 111, 112, 101, 110, 32, 115, 108, 111, 116, 32, 116, 97, 107, 101, 115, 32, 116, 104, 101, 32, 112, 97, 114, 116, 121]⟩]
def statS : Array Value := #[.string ⟨#[110, 111, 110, 101]⟩, .string ⟨#[104, 101, 108, 100]⟩, .string ⟨#[99, 111, 110, 102, 105, 114, 109, 101, 100]⟩, .string ⟨#[99, 104, 101, 99, 107, 101, 100, 32, 105, 110]⟩, .string ⟨#[99, 97, 110, 99, 101, 108, 108, 101, 100]⟩, .string ⟨#[110, 111, 45, 115, 104, 111, 119]⟩, .string ⟨#[101, 120, 112, 105, 114, 101, 100]⟩, .string ⟨#[119, 97, 105, 116, 105, 110, 103]⟩, .string ⟨#[105, 115, 115, 117, 101, 100]⟩, .string ⟨#[108, 97, 112, 115, 101, 100]⟩]
abbrev nmC : String := Rows.codecsRoundTripRow.named.headD ""
abbrev nmS : String := (Rows.codecsRoundTripRow.named.drop 1).headD ""
abbrev laidC : List (String × DataW Unit) := [(nmC, Rows.laid_e2e_engine_codeNames)]
abbrev laidCS : List (String × DataW Unit) := [(nmC, Rows.laid_e2e_engine_codeNames), (nmS, Rows.laid_e2e_engine_statusNames)]
/-- a world that meets the condition -/
def laidWorldP (P : Program) (os : Os) : World :=
  let w0 := World.holding P os ⟨#[], #[], []⟩
  { w0 with heap := (w0.heap.modify 1 fun
      | .cells _ t frozen => .cells codeS t frozen
      | o => o).modify 2 fun
      | .cells _ t frozen => .cells statS t frozen
      | o => o }
set_option maxRecDepth 100000 in
theorem laidWorld_met (os : Os) (args : Array Value) : laidMetH Tryz.prog laidC ((laidWorldP Tryz.prog os).forCall (fun _ _ => 0) ⟨#[], args, []⟩).memory := by
  rw [Go.MakeChecks.laidMetH_plain _ _ _ (by kernel_rfl)]
  exact laidMet_of_run' 8 (by kernel_rfl) (by kernel_rfl)
set_option maxRecDepth 100000 in
theorem laidWorld_met2 (os : Os) (args : Array Value) : laidMetH Tryz.prog laidCS ((laidWorldP Tryz.prog os).forCall (fun _ _ => 0) ⟨#[], args, []⟩).memory := by
  rw [Go.MakeChecks.laidMetH_plain _ _ _ (by kernel_rfl)]
  exact laidMet_of_run' 8 (by kernel_rfl) (by kernel_rfl)
end Go.Proofs.Qxb6500896aGreatDoor
