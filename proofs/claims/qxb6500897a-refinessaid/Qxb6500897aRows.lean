/-
  No cell of these rows narrows 'for every input' (looked for: loops, veiled, ifaces, maps, wideKeys, modest, calm, conditions, laid).
  DERIVED. THE GIVEN ROWS OF THIS SEAT. 10 by the template 'for every input the law returns true; each argument reads behind the call as it read before'; 0 by the template 'total and deterministic' (their statements: Qxb6500897aTotals.lean).
  GIVEN WITH THE SEED: the statements are not yours to turn. If you find one false, say at which input.
  Laid BY PROGRAM, IN A SANDBOX (cutbox-rows.mjs): the forced cells as the released guide's own fill.sh prints them over the translation 5902bdbae3859190… (all of the seat's roots in one cut). By AI agents, Wed Nov 11 2026. No macro, syntax, notation, axiom, sorry.
-/
import Derived.Test.Qxb6500897aChecked
import GoSem.Claim
import GoSem.ClaimJoined
import GoSem.ClaimMapViews
import Derived.JoinedTies
import Derived.KernelRfl
namespace Go.Proofs.Qxb6500897a
/- THE CELL 'sum', in the pinned program and in every row, IS THE sha256 OF THE DUMP (.gsa) THAT Qxb6500897aProg.lean LOADS. Nothing in Lean hashes anything: it is a label: what it is worth is what the hold of that sum in a sandbox is worth. -/
noncomputable def Try.pinned : Pinned := { name := "qxb6500897a", sum := "5902bdbae38591904fd5a589f4c27021a5844ff0378d66ae9928ae4de4520153", checked := Try.checked }
namespace Rows
def none {H : Type} : Left H := { results := [], args := [] }

/-- 'slotslaw.Refines': WHATEVER THE INPUT: true; the input reads as it did. -/
def refinesSpec : ChangeSpec := { name := "refines", fn := fun _ => fun
  | [d] => { results := [.lit (.bool true)], args := [d] }
  | _ => none }
def refinesRow : OpenClaim := { program := "qxb6500897a", sum := "5902bdbae38591904fd5a589f4c27021a5844ff0378d66ae9928ae4de4520153", func := "e2e/slotslaw.Refines", spec := "refines", apart := false }
def RefinesSaid : Prop := refinesRow.holds Try.pinned (OpenSpec.ofChange refinesSpec)

/-- ITS FALSE NEIGHBOUR: 'it returns false'. Refute it at one input. -/
def refinesWrong : ChangeSpec := { name := "refines", fn := fun _ => fun
  | [d] => { results := [.lit (.bool false)], args := [d] }
  | _ => none }
def RefinesWrongFalsely : Prop := refinesRow.holds Try.pinned (OpenSpec.ofChange refinesWrong)

/-- 'slotslaw.OccupancyIsSumOfAdmissions': WHATEVER THE INPUT: true; the input reads as it did. -/
def occupancyIsSumOfAdmissionsSpec : ChangeSpec := { name := "occupancyIsSumOfAdmissions", fn := fun _ => fun
  | [d] => { results := [.lit (.bool true)], args := [d] }
  | _ => none }
def occupancyIsSumOfAdmissionsRow : OpenClaim := { program := "qxb6500897a", sum := "5902bdbae38591904fd5a589f4c27021a5844ff0378d66ae9928ae4de4520153", func := "e2e/slotslaw.OccupancyIsSumOfAdmissions", spec := "occupancyIsSumOfAdmissions", apart := false }
def OccupancyIsSumOfAdmissionsSaid : Prop := occupancyIsSumOfAdmissionsRow.holds Try.pinned (OpenSpec.ofChange occupancyIsSumOfAdmissionsSpec)

/-- ITS FALSE NEIGHBOUR: 'it returns false'. Refute it at one input. -/
def occupancyIsSumOfAdmissionsWrong : ChangeSpec := { name := "occupancyIsSumOfAdmissions", fn := fun _ => fun
  | [d] => { results := [.lit (.bool false)], args := [d] }
  | _ => none }
def OccupancyIsSumOfAdmissionsWrongFalsely : Prop := occupancyIsSumOfAdmissionsRow.holds Try.pinned (OpenSpec.ofChange occupancyIsSumOfAdmissionsWrong)

/-- 'slotslaw.AdmitExactlyIfItFits': WHATEVER THE INPUT: true; the input reads as it did. -/
def admitExactlyIfItFitsSpec : ChangeSpec := { name := "admitExactlyIfItFits", fn := fun _ => fun
  | [d] => { results := [.lit (.bool true)], args := [d] }
  | _ => none }
def admitExactlyIfItFitsRow : OpenClaim := { program := "qxb6500897a", sum := "5902bdbae38591904fd5a589f4c27021a5844ff0378d66ae9928ae4de4520153", func := "e2e/slotslaw.AdmitExactlyIfItFits", spec := "admitExactlyIfItFits", apart := false }
def AdmitExactlyIfItFitsSaid : Prop := admitExactlyIfItFitsRow.holds Try.pinned (OpenSpec.ofChange admitExactlyIfItFitsSpec)

/-- ITS FALSE NEIGHBOUR: 'it returns false'. Refute it at one input. -/
def admitExactlyIfItFitsWrong : ChangeSpec := { name := "admitExactlyIfItFits", fn := fun _ => fun
  | [d] => { results := [.lit (.bool false)], args := [d] }
  | _ => none }
def AdmitExactlyIfItFitsWrongFalsely : Prop := admitExactlyIfItFitsRow.holds Try.pinned (OpenSpec.ofChange admitExactlyIfItFitsWrong)

/-- 'slotslaw.ReleaseUndoesAdmit': WHATEVER THE INPUT: true; the input reads as it did. -/
def releaseUndoesAdmitSpec : ChangeSpec := { name := "releaseUndoesAdmit", fn := fun _ => fun
  | [d] => { results := [.lit (.bool true)], args := [d] }
  | _ => none }
def releaseUndoesAdmitRow : OpenClaim := { program := "qxb6500897a", sum := "5902bdbae38591904fd5a589f4c27021a5844ff0378d66ae9928ae4de4520153", func := "e2e/slotslaw.ReleaseUndoesAdmit", spec := "releaseUndoesAdmit", apart := false }
def ReleaseUndoesAdmitSaid : Prop := releaseUndoesAdmitRow.holds Try.pinned (OpenSpec.ofChange releaseUndoesAdmitSpec)

/-- ITS FALSE NEIGHBOUR: 'it returns false'. Refute it at one input. -/
def releaseUndoesAdmitWrong : ChangeSpec := { name := "releaseUndoesAdmit", fn := fun _ => fun
  | [d] => { results := [.lit (.bool false)], args := [d] }
  | _ => none }
def ReleaseUndoesAdmitWrongFalsely : Prop := releaseUndoesAdmitRow.holds Try.pinned (OpenSpec.ofChange releaseUndoesAdmitWrong)

/-- 'slotslaw.AdvanceClearsExactlyTheExpired': WHATEVER THE INPUT: true; the input reads as it did. -/
def advanceClearsExactlyTheExpiredSpec : ChangeSpec := { name := "advanceClearsExactlyTheExpired", fn := fun _ => fun
  | [d] => { results := [.lit (.bool true)], args := [d] }
  | _ => none }
def advanceClearsExactlyTheExpiredRow : OpenClaim := { program := "qxb6500897a", sum := "5902bdbae38591904fd5a589f4c27021a5844ff0378d66ae9928ae4de4520153", func := "e2e/slotslaw.AdvanceClearsExactlyTheExpired", spec := "advanceClearsExactlyTheExpired", apart := false }
def AdvanceClearsExactlyTheExpiredSaid : Prop := advanceClearsExactlyTheExpiredRow.holds Try.pinned (OpenSpec.ofChange advanceClearsExactlyTheExpiredSpec)

/-- ITS FALSE NEIGHBOUR: 'it returns false'. Refute it at one input. -/
def advanceClearsExactlyTheExpiredWrong : ChangeSpec := { name := "advanceClearsExactlyTheExpired", fn := fun _ => fun
  | [d] => { results := [.lit (.bool false)], args := [d] }
  | _ => none }
def AdvanceClearsExactlyTheExpiredWrongFalsely : Prop := advanceClearsExactlyTheExpiredRow.holds Try.pinned (OpenSpec.ofChange advanceClearsExactlyTheExpiredWrong)

/-- 'slotslaw.DwellIsCarriedPastTheHorizon': WHATEVER THE INPUT: true; the input reads as it did. -/
def dwellIsCarriedPastTheHorizonSpec : ChangeSpec := { name := "dwellIsCarriedPastTheHorizon", fn := fun _ => fun
  | [d] => { results := [.lit (.bool true)], args := [d] }
  | _ => none }
def dwellIsCarriedPastTheHorizonRow : OpenClaim := { program := "qxb6500897a", sum := "5902bdbae38591904fd5a589f4c27021a5844ff0378d66ae9928ae4de4520153", func := "e2e/slotslaw.DwellIsCarriedPastTheHorizon", spec := "dwellIsCarriedPastTheHorizon", apart := false }
def DwellIsCarriedPastTheHorizonSaid : Prop := dwellIsCarriedPastTheHorizonRow.holds Try.pinned (OpenSpec.ofChange dwellIsCarriedPastTheHorizonSpec)

/-- ITS FALSE NEIGHBOUR: 'it returns false'. Refute it at one input. -/
def dwellIsCarriedPastTheHorizonWrong : ChangeSpec := { name := "dwellIsCarriedPastTheHorizon", fn := fun _ => fun
  | [d] => { results := [.lit (.bool false)], args := [d] }
  | _ => none }
def DwellIsCarriedPastTheHorizonWrongFalsely : Prop := dwellIsCarriedPastTheHorizonRow.holds Try.pinned (OpenSpec.ofChange dwellIsCarriedPastTheHorizonWrong)

/-- 'slotslaw.StaysWithinBounds': WHATEVER THE INPUT: true; the input reads as it did. -/
def staysWithinBoundsSpec : ChangeSpec := { name := "staysWithinBounds", fn := fun _ => fun
  | [d] => { results := [.lit (.bool true)], args := [d] }
  | _ => none }
def staysWithinBoundsRow : OpenClaim := { program := "qxb6500897a", sum := "5902bdbae38591904fd5a589f4c27021a5844ff0378d66ae9928ae4de4520153", func := "e2e/slotslaw.StaysWithinBounds", spec := "staysWithinBounds", apart := false }
def StaysWithinBoundsSaid : Prop := staysWithinBoundsRow.holds Try.pinned (OpenSpec.ofChange staysWithinBoundsSpec)

/-- ITS FALSE NEIGHBOUR: 'it returns false'. Refute it at one input. -/
def staysWithinBoundsWrong : ChangeSpec := { name := "staysWithinBounds", fn := fun _ => fun
  | [d] => { results := [.lit (.bool false)], args := [d] }
  | _ => none }
def StaysWithinBoundsWrongFalsely : Prop := staysWithinBoundsRow.holds Try.pinned (OpenSpec.ofChange staysWithinBoundsWrong)

/-- 'slotslaw.RefusedChangesNothing': WHATEVER THE INPUT: true; the input reads as it did. -/
def refusedChangesNothingSpec : ChangeSpec := { name := "refusedChangesNothing", fn := fun _ => fun
  | [d] => { results := [.lit (.bool true)], args := [d] }
  | _ => none }
def refusedChangesNothingRow : OpenClaim := { program := "qxb6500897a", sum := "5902bdbae38591904fd5a589f4c27021a5844ff0378d66ae9928ae4de4520153", func := "e2e/slotslaw.RefusedChangesNothing", spec := "refusedChangesNothing", apart := false }
def RefusedChangesNothingSaid : Prop := refusedChangesNothingRow.holds Try.pinned (OpenSpec.ofChange refusedChangesNothingSpec)

/-- ITS FALSE NEIGHBOUR: 'it returns false'. Refute it at one input. -/
def refusedChangesNothingWrong : ChangeSpec := { name := "refusedChangesNothing", fn := fun _ => fun
  | [d] => { results := [.lit (.bool false)], args := [d] }
  | _ => none }
def RefusedChangesNothingWrongFalsely : Prop := refusedChangesNothingRow.holds Try.pinned (OpenSpec.ofChange refusedChangesNothingWrong)

/-- 'slotslaw.FirstFitIsEarliestFit': WHATEVER THE INPUT: true; the input reads as it did. -/
def firstFitIsEarliestFitSpec : ChangeSpec := { name := "firstFitIsEarliestFit", fn := fun _ => fun
  | [d] => { results := [.lit (.bool true)], args := [d] }
  | _ => none }
def firstFitIsEarliestFitRow : OpenClaim := { program := "qxb6500897a", sum := "5902bdbae38591904fd5a589f4c27021a5844ff0378d66ae9928ae4de4520153", func := "e2e/slotslaw.FirstFitIsEarliestFit", spec := "firstFitIsEarliestFit", apart := false }
def FirstFitIsEarliestFitSaid : Prop := firstFitIsEarliestFitRow.holds Try.pinned (OpenSpec.ofChange firstFitIsEarliestFitSpec)

/-- ITS FALSE NEIGHBOUR: 'it returns false'. Refute it at one input. -/
def firstFitIsEarliestFitWrong : ChangeSpec := { name := "firstFitIsEarliestFit", fn := fun _ => fun
  | [d] => { results := [.lit (.bool false)], args := [d] }
  | _ => none }
def FirstFitIsEarliestFitWrongFalsely : Prop := firstFitIsEarliestFitRow.holds Try.pinned (OpenSpec.ofChange firstFitIsEarliestFitWrong)

/-- 'slotslaw.ConfigIsChecked': WHATEVER THE INPUT: true; the input reads as it did. -/
def configIsCheckedSpec : ChangeSpec := { name := "configIsChecked", fn := fun _ => fun
  | [] => { results := [.lit (.bool true)], args := [] }
  | _ => none }
def configIsCheckedRow : OpenClaim := { program := "qxb6500897a", sum := "5902bdbae38591904fd5a589f4c27021a5844ff0378d66ae9928ae4de4520153", func := "e2e/slotslaw.ConfigIsChecked", spec := "configIsChecked", unfollowed := true, recurses := true, apart := false }
def ConfigIsCheckedSaid : Prop := configIsCheckedRow.holds Try.pinned (OpenSpec.ofChange configIsCheckedSpec)

/-- ITS FALSE NEIGHBOUR: 'it returns false'. Refute it at one input. -/
def configIsCheckedWrong : ChangeSpec := { name := "configIsChecked", fn := fun _ => fun
  | [] => { results := [.lit (.bool false)], args := [] }
  | _ => none }
def ConfigIsCheckedWrongFalsely : Prop := configIsCheckedRow.holds Try.pinned (OpenSpec.ofChange configIsCheckedWrong)

end Rows
end Go.Proofs.Qxb6500897a
