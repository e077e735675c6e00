/-
  DERIVED. GIVEN WITH THE SEED: THE PROGRAM's TIES (one call each: nine closed facts by the kernel) AND EACH ROW's TIE, after the 31st guide's Derived/Test/Toyas{Tie, Card}.lean. No idea stands in it: it is a product of the set-up. Laid BY PROGRAM, IN A SANDBOX (cutbox-door.mjs). By AI agents, Wed Nov 11 2026. No macro, syntax, notation, axiom, sorry.
-/
import Derived.Test.Qxb6500896aGreatDoorRows
import Derived.LaidByTextLater
import Derived.SevenTiedAt
import Derived.LaidSub
import Derived.LaidOnce
namespace Go.Proofs.Qxb6500896aGreatDoor
open Go
set_option maxRecDepth 100000
theorem seatTie1 : Tryz.prog.laidByTextLater [("e2e/api.Moves", Rows.laid_e2e_api_Moves), ("e2e/engine.codeNames", Rows.laid_e2e_engine_codeNames), ("e2e/engine.statusNames", Rows.laid_e2e_engine_statusNames)] [.mapped, .data, .data] true :=
  Program.laidByTextLater_by_one 48 8 24 (by kernel_rfl) (by kernel_rfl) (by kernel_rfl) (by kernel_rfl) (by kernel_rfl) (by kernel_rfl) (fun _ _ => by kernel_rfl)
theorem noOwnUnsafe : Tryz.pinned.checked.prog.headLifts.contains "ownunsafe" = false := by kernel_rfl
theorem tie : Tryz.prog.laidByTextLater [("e2e/api.Moves", Rows.laid_e2e_api_Moves)] [.mapped] true :=
  Program.laidByTextLater.sub seatTie1 ["e2e/api.Moves"] (by kernel_rfl) (by kernel_rfl)
theorem conservation_row_tie : Rows.conservationRow.laidByTextAt .later Tryz.pinned [.mapped] true :=
  OpenClaim.laidByTextAt_later rfl rfl tie noOwnUnsafe
theorem tie2 : Tryz.prog.laidByTextLater [("e2e/engine.codeNames", Rows.laid_e2e_engine_codeNames)] [.data] true :=
  Program.laidByTextLater.sub seatTie1 ["e2e/engine.codeNames"] (by kernel_rfl) (by kernel_rfl)
theorem replayEqualsLive_row_tie : Rows.replayEqualsLiveRow.laidByTextAt .later Tryz.pinned [.data] true :=
  OpenClaim.laidByTextAt_later rfl rfl tie2 noOwnUnsafe
theorem recoveryReturns_row_tie : Rows.recoveryReturnsRow.laidByTextAt .later Tryz.pinned [.data] true :=
  OpenClaim.laidByTextAt_later rfl rfl tie2 noOwnUnsafe
theorem tie3 : Tryz.prog.laidByTextLater [("e2e/engine.codeNames", Rows.laid_e2e_engine_codeNames), ("e2e/engine.statusNames", Rows.laid_e2e_engine_statusNames)] [.data, .data] true :=
  Program.laidByTextLater.sub seatTie1 ["e2e/engine.codeNames", "e2e/engine.statusNames"] (by kernel_rfl) (by kernel_rfl)
theorem codecsRoundTrip_row_tie : Rows.codecsRoundTripRow.laidByTextAt .later Tryz.pinned [.data, .data] true :=
  OpenClaim.laidByTextAt_later rfl rfl tie3 noOwnUnsafe
end Go.Proofs.Qxb6500896aGreatDoor
