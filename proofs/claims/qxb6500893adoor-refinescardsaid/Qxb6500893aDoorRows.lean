/-
  NARROWER THAN 'FOR EVERY INPUT', by the rows' own cells (each row's printed sentence says how): Refines: laid · FollowsTheSet: laid · BoundedCost: laid · StaysInside: laid · KeepsContents: laid · RefusalsChangeNothing: laid · AuditStaysClean: laid · SurvivesScribbles: laid.
  DERIVED. THE GIVEN ROWS OF THIS SEAT. 8 by the template 'for every input the law returns true; each argument reads behind the call as it read before'; 0 by the template 'total and deterministic' (their statements: Qxb6500893aDoorTotals.lean).
  GIVEN WITH THE SEED: the statements are not yours to turn. If you find one false, say at which input.
  Laid BY PROGRAM, IN A SANDBOX (cutbox-rows.mjs): the forced cells as the released guide's own fill.sh prints them over the translation c21397292f53ed39… (all of the seat's roots in one cut). By AI agents, Wed Nov 11 2026. No macro, syntax, notation, axiom, sorry.
-/
import Derived.Test.Qxb6500893aDoorChecked
import GoSem.Claim
import GoSem.ClaimJoined
import GoSem.ClaimMapViews
import Derived.JoinedTies
import Derived.KernelRfl
namespace Go.Proofs.Qxb6500893aDoor
/- THE CELL 'sum', in the pinned program and in every row, IS THE sha256 OF THE DUMP (.gsa) THAT Qxb6500893aDoorProg.lean LOADS. Nothing in Lean hashes anything: it is a label: what it is worth is what the hold of that sum in a sandbox is worth. -/
noncomputable def Tryd.pinned : Pinned := { name := "qxb6500893adoor", sum := "c21397292f53ed39e20ef1edace8a89a23bb68a572198d0c0f42bad70146f784", checked := Tryd.checked }
namespace Rows
def none {H : Type} : Left H := { results := [], args := [] }

/- WHAT THE LISTED PACKAGE-LEVEL VARIABLES READ AS WHEN THE CALL BEGINS. Each datum BY PROGRAM (the guide's laid-datum.mjs) off the statement by which the dump's own 'gosem.cut.vars' lays the variable. In a bare row this is a premise. The card (Qxb6500893aDoorCards.lean) ties it to the program's text. -/
def laid_e2e_poollaw_startRegion {H : Type} : DataW H := .agg [.lit (.int .u32 24), .lit (.int .u32 4040)]

/-- 'poollaw.Refines': WHATEVER THE INPUT: true; the input reads as it did. -/
def refinesSpec : ChangeSpec := { name := "refines", fn := fun _ => fun
  | [d] => { results := [.lit (.bool true)], args := [d] }
  | _ => none }
def refinesRow : OpenClaim := { program := "qxb6500893adoor", sum := "c21397292f53ed39e20ef1edace8a89a23bb68a572198d0c0f42bad70146f784", func := "e2e/poollaw.Refines", spec := "refines", named := ["e2e/poollaw.startRegion"], apart := false, laid := [("e2e/poollaw.startRegion", laid_e2e_poollaw_startRegion)] }
def RefinesSaid : Prop := refinesRow.holds Tryd.pinned (OpenSpec.ofChange refinesSpec)

/-- ITS FALSE NEIGHBOUR: 'it returns false'. Refute it at one input. -/
def refinesWrong : ChangeSpec := { name := "refines", fn := fun _ => fun
  | [d] => { results := [.lit (.bool false)], args := [d] }
  | _ => none }
def RefinesWrongFalsely : Prop := refinesRow.holds Tryd.pinned (OpenSpec.ofChange refinesWrong)

/-- 'poollaw.FollowsTheSet': WHATEVER THE INPUT: true; the input reads as it did. -/
def followsTheSetSpec : ChangeSpec := { name := "followsTheSet", fn := fun _ => fun
  | [d] => { results := [.lit (.bool true)], args := [d] }
  | _ => none }
def followsTheSetRow : OpenClaim := { program := "qxb6500893adoor", sum := "c21397292f53ed39e20ef1edace8a89a23bb68a572198d0c0f42bad70146f784", func := "e2e/poollaw.FollowsTheSet", spec := "followsTheSet", named := ["e2e/poollaw.startRegion"], apart := false, laid := [("e2e/poollaw.startRegion", laid_e2e_poollaw_startRegion)] }
def FollowsTheSetSaid : Prop := followsTheSetRow.holds Tryd.pinned (OpenSpec.ofChange followsTheSetSpec)

/-- ITS FALSE NEIGHBOUR: 'it returns false'. Refute it at one input. -/
def followsTheSetWrong : ChangeSpec := { name := "followsTheSet", fn := fun _ => fun
  | [d] => { results := [.lit (.bool false)], args := [d] }
  | _ => none }
def FollowsTheSetWrongFalsely : Prop := followsTheSetRow.holds Tryd.pinned (OpenSpec.ofChange followsTheSetWrong)

/-- 'poollaw.BoundedCost': WHATEVER THE INPUT: true; the input reads as it did. -/
def boundedCostSpec : ChangeSpec := { name := "boundedCost", fn := fun _ => fun
  | [d] => { results := [.lit (.bool true)], args := [d] }
  | _ => none }
def boundedCostRow : OpenClaim := { program := "qxb6500893adoor", sum := "c21397292f53ed39e20ef1edace8a89a23bb68a572198d0c0f42bad70146f784", func := "e2e/poollaw.BoundedCost", spec := "boundedCost", named := ["e2e/poollaw.startRegion"], apart := false, laid := [("e2e/poollaw.startRegion", laid_e2e_poollaw_startRegion)] }
def BoundedCostSaid : Prop := boundedCostRow.holds Tryd.pinned (OpenSpec.ofChange boundedCostSpec)

/-- ITS FALSE NEIGHBOUR: 'it returns false'. Refute it at one input. -/
def boundedCostWrong : ChangeSpec := { name := "boundedCost", fn := fun _ => fun
  | [d] => { results := [.lit (.bool false)], args := [d] }
  | _ => none }
def BoundedCostWrongFalsely : Prop := boundedCostRow.holds Tryd.pinned (OpenSpec.ofChange boundedCostWrong)

/-- 'poollaw.StaysInside': WHATEVER THE INPUT: true; the input reads as it did. -/
def staysInsideSpec : ChangeSpec := { name := "staysInside", fn := fun _ => fun
  | [d] => { results := [.lit (.bool true)], args := [d] }
  | _ => none }
def staysInsideRow : OpenClaim := { program := "qxb6500893adoor", sum := "c21397292f53ed39e20ef1edace8a89a23bb68a572198d0c0f42bad70146f784", func := "e2e/poollaw.StaysInside", spec := "staysInside", named := ["e2e/poollaw.startRegion"], apart := false, laid := [("e2e/poollaw.startRegion", laid_e2e_poollaw_startRegion)] }
def StaysInsideSaid : Prop := staysInsideRow.holds Tryd.pinned (OpenSpec.ofChange staysInsideSpec)

/-- ITS FALSE NEIGHBOUR: 'it returns false'. Refute it at one input. -/
def staysInsideWrong : ChangeSpec := { name := "staysInside", fn := fun _ => fun
  | [d] => { results := [.lit (.bool false)], args := [d] }
  | _ => none }
def StaysInsideWrongFalsely : Prop := staysInsideRow.holds Tryd.pinned (OpenSpec.ofChange staysInsideWrong)

/-- 'poollaw.KeepsContents': WHATEVER THE INPUT: true; the input reads as it did. -/
def keepsContentsSpec : ChangeSpec := { name := "keepsContents", fn := fun _ => fun
  | [d] => { results := [.lit (.bool true)], args := [d] }
  | _ => none }
def keepsContentsRow : OpenClaim := { program := "qxb6500893adoor", sum := "c21397292f53ed39e20ef1edace8a89a23bb68a572198d0c0f42bad70146f784", func := "e2e/poollaw.KeepsContents", spec := "keepsContents", named := ["e2e/poollaw.startRegion"], apart := false, laid := [("e2e/poollaw.startRegion", laid_e2e_poollaw_startRegion)] }
def KeepsContentsSaid : Prop := keepsContentsRow.holds Tryd.pinned (OpenSpec.ofChange keepsContentsSpec)

/-- ITS FALSE NEIGHBOUR: 'it returns false'. Refute it at one input. -/
def keepsContentsWrong : ChangeSpec := { name := "keepsContents", fn := fun _ => fun
  | [d] => { results := [.lit (.bool false)], args := [d] }
  | _ => none }
def KeepsContentsWrongFalsely : Prop := keepsContentsRow.holds Tryd.pinned (OpenSpec.ofChange keepsContentsWrong)

/-- 'poollaw.RefusalsChangeNothing': WHATEVER THE INPUT: true; the input reads as it did. -/
def refusalsChangeNothingSpec : ChangeSpec := { name := "refusalsChangeNothing", fn := fun _ => fun
  | [d] => { results := [.lit (.bool true)], args := [d] }
  | _ => none }
def refusalsChangeNothingRow : OpenClaim := { program := "qxb6500893adoor", sum := "c21397292f53ed39e20ef1edace8a89a23bb68a572198d0c0f42bad70146f784", func := "e2e/poollaw.RefusalsChangeNothing", spec := "refusalsChangeNothing", named := ["e2e/poollaw.startRegion"], apart := false, laid := [("e2e/poollaw.startRegion", laid_e2e_poollaw_startRegion)] }
def RefusalsChangeNothingSaid : Prop := refusalsChangeNothingRow.holds Tryd.pinned (OpenSpec.ofChange refusalsChangeNothingSpec)

/-- ITS FALSE NEIGHBOUR: 'it returns false'. Refute it at one input. -/
def refusalsChangeNothingWrong : ChangeSpec := { name := "refusalsChangeNothing", fn := fun _ => fun
  | [d] => { results := [.lit (.bool false)], args := [d] }
  | _ => none }
def RefusalsChangeNothingWrongFalsely : Prop := refusalsChangeNothingRow.holds Tryd.pinned (OpenSpec.ofChange refusalsChangeNothingWrong)

/-- 'poollaw.AuditStaysClean': WHATEVER THE INPUT: true; the input reads as it did. -/
def auditStaysCleanSpec : ChangeSpec := { name := "auditStaysClean", fn := fun _ => fun
  | [d] => { results := [.lit (.bool true)], args := [d] }
  | _ => none }
def auditStaysCleanRow : OpenClaim := { program := "qxb6500893adoor", sum := "c21397292f53ed39e20ef1edace8a89a23bb68a572198d0c0f42bad70146f784", func := "e2e/poollaw.AuditStaysClean", spec := "auditStaysClean", named := ["e2e/poollaw.startRegion"], apart := false, laid := [("e2e/poollaw.startRegion", laid_e2e_poollaw_startRegion)] }
def AuditStaysCleanSaid : Prop := auditStaysCleanRow.holds Tryd.pinned (OpenSpec.ofChange auditStaysCleanSpec)

/-- ITS FALSE NEIGHBOUR: 'it returns false'. Refute it at one input. -/
def auditStaysCleanWrong : ChangeSpec := { name := "auditStaysClean", fn := fun _ => fun
  | [d] => { results := [.lit (.bool false)], args := [d] }
  | _ => none }
def AuditStaysCleanWrongFalsely : Prop := auditStaysCleanRow.holds Tryd.pinned (OpenSpec.ofChange auditStaysCleanWrong)

/-- 'poollaw.SurvivesScribbles': WHATEVER THE INPUT: true; the input reads as it did. -/
def survivesScribblesSpec : ChangeSpec := { name := "survivesScribbles", fn := fun _ => fun
  | [d] => { results := [.lit (.bool true)], args := [d] }
  | _ => none }
def survivesScribblesRow : OpenClaim := { program := "qxb6500893adoor", sum := "c21397292f53ed39e20ef1edace8a89a23bb68a572198d0c0f42bad70146f784", func := "e2e/poollaw.SurvivesScribbles", spec := "survivesScribbles", named := ["e2e/poollaw.startRegion"], apart := false, laid := [("e2e/poollaw.startRegion", laid_e2e_poollaw_startRegion)] }
def SurvivesScribblesSaid : Prop := survivesScribblesRow.holds Tryd.pinned (OpenSpec.ofChange survivesScribblesSpec)

/-- ITS FALSE NEIGHBOUR: 'it returns false'. Refute it at one input. -/
def survivesScribblesWrong : ChangeSpec := { name := "survivesScribbles", fn := fun _ => fun
  | [d] => { results := [.lit (.bool false)], args := [d] }
  | _ => none }
def SurvivesScribblesWrongFalsely : Prop := survivesScribblesRow.holds Tryd.pinned (OpenSpec.ofChange survivesScribblesWrong)

end Rows
end Go.Proofs.Qxb6500893aDoor
