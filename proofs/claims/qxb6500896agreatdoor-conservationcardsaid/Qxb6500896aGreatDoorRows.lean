/-
  NARROWER THAN 'FOR EVERY INPUT', by the rows' own cells (each row's printed sentence says how): Conservation: laid · ReplayEqualsLive: laid · CodecsRoundTrip: laid · RecoveryReturns: laid.
  DERIVED. THE GIVEN ROWS OF THIS SEAT. 4 by the template 'for every input the law returns true; each argument reads behind the call as it read before'; 0 by the template 'total and deterministic' (their statements: Qxb6500896aGreatDoorTotals.lean).
  GIVEN WITH THE SEED: the statements are not yours to turn. If you find one false, say at which input.
  Laid BY PROGRAM, IN A SANDBOX (cutbox-rows.mjs): the forced cells as the released guide's own fill.sh prints them over the translation aa0f187e2adfa118… (all of the seat's roots in one cut). By AI agents, Wed Nov 11 2026. No macro, syntax, notation, axiom, sorry.
-/
import Derived.Test.Qxb6500896aGreatDoorChecked
import GoSem.Claim
import GoSem.ClaimJoined
import GoSem.ClaimMapViews
import Derived.JoinedTies
import Derived.KernelRfl
namespace Go.Proofs.Qxb6500896aGreatDoor
/- THE CELL 'sum', in the pinned program and in every row, IS THE sha256 OF THE DUMP (.gsa) THAT Qxb6500896aGreatDoorProg.lean LOADS. Nothing in Lean hashes anything: it is a label: what it is worth is what the hold of that sum in a sandbox is worth. -/
noncomputable def Tryz.pinned : Pinned := { name := "qxb6500896agreatdoor", sum := "aa0f187e2adfa118ba555592a3b40e1296e043d435142d27e7e6c8c9405572bc", checked := Tryz.checked }
namespace Rows
def none {H : Type} : Left H := { results := [], args := [] }

/- WHAT THE LISTED PACKAGE-LEVEL VARIABLES READ AS WHEN THE CALL BEGINS. Each datum BY PROGRAM (the guide's laid-datum.mjs) off the statement by which the dump's own 'gosem.cut.vars' lays the variable. In a bare row this is a premise. The card (Qxb6500896aGreatDoorCards.lean) ties it to the program's text. -/
def laid_e2e_api_Moves {H : Type} : DataW H := .map [(.int .i64 1, .slice [.lit (.int .i64 2), .lit (.int .i64 4), .lit (.int .i64 6)] []), (.int .i64 2, .slice [.lit (.int .i64 3), .lit (.int .i64 4), .lit (.int .i64 5)] []), (.int .i64 7, .slice [.lit (.int .i64 8), .lit (.int .i64 4)] []), (.int .i64 8, .slice [.lit (.int .i64 3), .lit (.int .i64 4), .lit (.int .i64 9)] [])]
def laid_e2e_engine_codeNames {H : Type} : DataW H := .agg [.lit (.string [111, 107]), .lit (.string [109, 97, 108, 102, 111, 114, 109, 101, 100, 32, 114, 101, 113, 117, 101, 115, 116]), .lit (.string [117, 110, 107, 110, 111, 119, 110, 32, 105, 100]), .lit (.string [115, 108, 111, 116, 32, 111, 117, 116, 115, 105, 100, 101, 32, 116, 104, 101, 32, 104, 111, 114, 105, 122, 111, 110]), .lit (.string [98, 97, 100, 32, 112, 97, 114, 116, 121, 32, 115, 105, 122, 101]), .lit (.string [99, 97, 112, 97, 99, 105, 116, 121, 32, 101, 120, 99, 101, 101, 100, 101, 100]), .lit (.string [113, 117, 111, 116, 97, 32, 101, 120, 99, 101, 101, 100, 101, 100]), .lit (.string [116, 114, 97, 110, 115, 102, 101, 114, 32, 110, 111, 116, 32, 102, 101, 97, 115, 105, 98, 108, 101]), .lit (.string [119, 114, 111, 110, 103, 32, 115, 116, 97, 116, 117, 115]), .lit (.string [98, 111, 111, 107, 105, 110, 103, 32, 116, 97, 98, 108, 101, 32, 102, 117, 108, 108]), .lit (.string [115, 116, 97, 110, 100, 98, 121, 32, 108, 105, 110, 101, 32, 102, 117, 108, 108]), .lit (.string [99, 108, 111, 99, 107, 32, 97, 116, 32, 105, 116, 115, 32, 101, 110, 100]), .lit (.string [117, 110, 107, 110, 111, 119, 110, 32, 99, 108, 97, 115, 115]), .lit (.string [117, 110, 107, 110, 111, 119, 110, 32, 97, 116, 116, 114, 97, 99, 116, 105, 111, 110]), .lit (.string [98, 97, 100, 32, 110, 117, 109, 98, 101, 114, 32, 111, 102, 32, 108, 101, 103, 115]), .lit (.string [116, 111, 111, 32, 101, 97, 114, 108, 121]), .lit (.string [116, 111, 111, 32, 108, 97, 116, 101]), .lit (.string [108, 111, 103, 32, 102, 117, 108, 108]), .lit (.string [116, 111, 111, 32, 108, 111, 110, 103, 32, 102, 111, 114, 32, 116, 104, 101, 32, 106, 111, 117, 114, 110, 97, 108]), .lit (.string [101, 110, 103, 105, 110, 101, 32, 100, 111, 119, 110]), .lit (.string [106, 111, 117, 114, 110, 97, 108, 32, 99, 111, 114, 114, 117, 112, 116]), .lit (.string [98, 97, 100, 32, 99, 111, 110, 102, 105, 103, 117, 114, 97, 116, 105, 111, 110]), .lit (.string [110, 111, 32, 111, 112, 101, 110, 32, 115, 108, 111, 116, 32, 116, 97, 107, 101, 115, 32, 116, 104, 101, 32, 112, 97, 114, 116, 121])]
def laid_e2e_engine_statusNames {H : Type} : DataW H := .agg [.lit (.string [110, 111, 110, 101]), .lit (.string [104, 101, 108, 100]), .lit (.string [99, 111, 110, 102, 105, 114, 109, 101, 100]), .lit (.string [99, 104, 101, 99, 107, 101, 100, 32, 105, 110]), .lit (.string [99, 97, 110, 99, 101, 108, 108, 101, 100]), .lit (.string [110, 111, 45, 115, 104, 111, 119]), .lit (.string [101, 120, 112, 105, 114, 101, 100]), .lit (.string [119, 97, 105, 116, 105, 110, 103]), .lit (.string [105, 115, 115, 117, 101, 100]), .lit (.string [108, 97, 112, 115, 101, 100])]

/-- 'enginelaw.Conservation': WHATEVER THE INPUT: true; the input reads as it did. -/
def conservationSpec : ChangeSpec := { name := "conservation", fn := fun _ => fun
  | [d] => { results := [.lit (.bool true)], args := [d] }
  | _ => none }
def conservationRow : OpenClaim := { program := "qxb6500896agreatdoor", sum := "aa0f187e2adfa118ba555592a3b40e1296e043d435142d27e7e6c8c9405572bc", func := "e2e/enginelaw.Conservation", spec := "conservation", unfollowed := true, recurses := true, named := ["e2e/api.Moves"], apart := false, laid := [("e2e/api.Moves", laid_e2e_api_Moves)] }
def ConservationSaid : Prop := conservationRow.holds Tryz.pinned (OpenSpec.ofChange conservationSpec)

/-- ITS FALSE NEIGHBOUR: 'it returns false'. Refute it at one input. -/
def conservationWrong : ChangeSpec := { name := "conservation", fn := fun _ => fun
  | [d] => { results := [.lit (.bool false)], args := [d] }
  | _ => none }
def ConservationWrongFalsely : Prop := conservationRow.holds Tryz.pinned (OpenSpec.ofChange conservationWrong)

/-- 'enginelaw.ReplayEqualsLive': WHATEVER THE INPUT: true; the input reads as it did. -/
def replayEqualsLiveSpec : ChangeSpec := { name := "replayEqualsLive", fn := fun _ => fun
  | [d] => { results := [.lit (.bool true)], args := [d] }
  | _ => none }
def replayEqualsLiveRow : OpenClaim := { program := "qxb6500896agreatdoor", sum := "aa0f187e2adfa118ba555592a3b40e1296e043d435142d27e7e6c8c9405572bc", func := "e2e/enginelaw.ReplayEqualsLive", spec := "replayEqualsLive", unfollowed := true, recurses := true, named := ["e2e/engine.codeNames"], apart := false, laid := [("e2e/engine.codeNames", laid_e2e_engine_codeNames)] }
def ReplayEqualsLiveSaid : Prop := replayEqualsLiveRow.holds Tryz.pinned (OpenSpec.ofChange replayEqualsLiveSpec)

/-- ITS FALSE NEIGHBOUR: 'it returns false'. Refute it at one input. -/
def replayEqualsLiveWrong : ChangeSpec := { name := "replayEqualsLive", fn := fun _ => fun
  | [d] => { results := [.lit (.bool false)], args := [d] }
  | _ => none }
def ReplayEqualsLiveWrongFalsely : Prop := replayEqualsLiveRow.holds Tryz.pinned (OpenSpec.ofChange replayEqualsLiveWrong)

/-- 'enginelaw.CodecsRoundTrip': WHATEVER THE INPUT: true; the input reads as it did. -/
def codecsRoundTripSpec : ChangeSpec := { name := "codecsRoundTrip", fn := fun _ => fun
  | [d] => { results := [.lit (.bool true)], args := [d] }
  | _ => none }
def codecsRoundTripRow : OpenClaim := { program := "qxb6500896agreatdoor", sum := "aa0f187e2adfa118ba555592a3b40e1296e043d435142d27e7e6c8c9405572bc", func := "e2e/enginelaw.CodecsRoundTrip", spec := "codecsRoundTrip", named := ["e2e/engine.codeNames", "e2e/engine.statusNames"], apart := false, laid := [("e2e/engine.codeNames", laid_e2e_engine_codeNames), ("e2e/engine.statusNames", laid_e2e_engine_statusNames)] }
def CodecsRoundTripSaid : Prop := codecsRoundTripRow.holds Tryz.pinned (OpenSpec.ofChange codecsRoundTripSpec)

/-- ITS FALSE NEIGHBOUR: 'it returns false'. Refute it at one input. -/
def codecsRoundTripWrong : ChangeSpec := { name := "codecsRoundTrip", fn := fun _ => fun
  | [d] => { results := [.lit (.bool false)], args := [d] }
  | _ => none }
def CodecsRoundTripWrongFalsely : Prop := codecsRoundTripRow.holds Tryz.pinned (OpenSpec.ofChange codecsRoundTripWrong)

/-- 'enginelaw.RecoveryReturns': WHATEVER THE INPUT: true; the input reads as it did. -/
def recoveryReturnsSpec : ChangeSpec := { name := "recoveryReturns", fn := fun _ => fun
  | [d] => { results := [.lit (.bool true)], args := [d] }
  | _ => none }
def recoveryReturnsRow : OpenClaim := { program := "qxb6500896agreatdoor", sum := "aa0f187e2adfa118ba555592a3b40e1296e043d435142d27e7e6c8c9405572bc", func := "e2e/enginelaw.RecoveryReturns", spec := "recoveryReturns", named := ["e2e/engine.codeNames"], apart := false, laid := [("e2e/engine.codeNames", laid_e2e_engine_codeNames)] }
def RecoveryReturnsSaid : Prop := recoveryReturnsRow.holds Tryz.pinned (OpenSpec.ofChange recoveryReturnsSpec)

/-- ITS FALSE NEIGHBOUR: 'it returns false'. Refute it at one input. -/
def recoveryReturnsWrong : ChangeSpec := { name := "recoveryReturns", fn := fun _ => fun
  | [d] => { results := [.lit (.bool false)], args := [d] }
  | _ => none }
def RecoveryReturnsWrongFalsely : Prop := recoveryReturnsRow.holds Tryz.pinned (OpenSpec.ofChange recoveryReturnsWrong)

end Rows
end Go.Proofs.Qxb6500896aGreatDoor
