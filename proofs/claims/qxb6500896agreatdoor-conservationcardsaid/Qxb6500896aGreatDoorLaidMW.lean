import Derived.Test.Qxb6500896aGreatDoorLaidM
namespace Go.Proofs.Qxb6500896aGreatDoor
open Go Go.RowKit
set_option linter.unusedVariables false

/-- a world that meets the condition -/
def laidWorldMP (P : Program) (os : Os) : World :=
  let w0 := World.holding P os ⟨#[], #[], []⟩
  let n := w0.heap.size
  { w0 with heap := ((((((w0.heap.modify 0 fun
      | .cells _ t frozen => .cells #[.map (some (n + 4))] t frozen
      | o => o).push (.cells #[.int .i64 2, .int .i64 4, .int .i64 6] 40)).push (.cells #[.int .i64 3, .int .i64 4, .int .i64 5] 40)).push (.cells #[.int .i64 8, .int .i64 4] 40)).push (.cells #[.int .i64 3, .int .i64 4, .int .i64 9] 40)).push
      (.map #[{ key := .int .i64 1, val := .slice (some ⟨n, 0, none⟩) 3 3, born := 0 }, { key := .int .i64 2, val := .slice (some ⟨n + 1, 0, none⟩) 3 3, born := 1 }, { key := .int .i64 7, val := .slice (some ⟨n + 2, 0, none⟩) 2 2, born := 2 }, { key := .int .i64 8, val := .slice (some ⟨n + 3, 0, none⟩) 3 3, born := 3 }] 4)) }
set_option maxRecDepth 100000 in
theorem laidWorldM_met (os : Os) (args : Array Value) : laidMetH Tryz.prog laidM ((laidWorldMP Tryz.prog os).forCall (fun _ _ => 0) ⟨#[], args, []⟩).memory := by
  rw [Go.MakeChecks.laidMetH_plain _ _ _ (by kernel_rfl)]
  exact laidMet_of_run' 8 (by kernel_rfl) (by kernel_rfl)
end Go.Proofs.Qxb6500896aGreatDoor
