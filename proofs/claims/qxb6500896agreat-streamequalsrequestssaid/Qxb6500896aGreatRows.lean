/-
  No cell of these rows narrows 'for every input' (looked for: loops, veiled, ifaces, maps, wideKeys, modest, calm, conditions, laid).
  DERIVED. THE GIVEN ROWS OF THIS SEAT. 14 by the template 'for every input the law returns true; each argument reads behind the call as it read before'; 0 by the template 'total and deterministic' (their statements: Qxb6500896aGreatTotals.lean).
  GIVEN WITH THE SEED: the statements are not yours to turn. If you find one false, say at which input.
  Laid BY PROGRAM, IN A SANDBOX (cutbox-rows.mjs): the forced cells as the released guide's own fill.sh prints them over the translation f11d369b69ccd7c6… (all of the seat's roots in one cut). By AI agents, Wed Nov 11 2026. No macro, syntax, notation, axiom, sorry.
-/
import Derived.Test.Qxb6500896aGreatChecked
import GoSem.Claim
import GoSem.ClaimJoined
import GoSem.ClaimMapViews
import Derived.JoinedTies
import Derived.KernelRfl
namespace Go.Proofs.Qxb6500896aGreat
/- THE CELL 'sum', in the pinned program and in every row, IS THE sha256 OF THE DUMP (.gsa) THAT Qxb6500896aGreatProg.lean LOADS. Nothing in Lean hashes anything: it is a label: what it is worth is what the hold of that sum in a sandbox is worth. -/
noncomputable def Tryz.pinned : Pinned := { name := "qxb6500896agreat", sum := "f11d369b69ccd7c64ac0124e72efec05a0075ce39b34893871161f1715dd6c26", checked := Tryz.checked }
namespace Rows
def none {H : Type} : Left H := { results := [], args := [] }

/-- 'enginelaw.Refines': WHATEVER THE INPUT: true; the input reads as it did. -/
def refinesSpec : ChangeSpec := { name := "refines", fn := fun _ => fun
  | [d] => { results := [.lit (.bool true)], args := [d] }
  | _ => none }
def refinesRow : OpenClaim := { program := "qxb6500896agreat", sum := "f11d369b69ccd7c64ac0124e72efec05a0075ce39b34893871161f1715dd6c26", func := "e2e/enginelaw.Refines", spec := "refines", unfollowed := true, recurses := true, apart := false }
def RefinesSaid : Prop := refinesRow.holds Tryz.pinned (OpenSpec.ofChange refinesSpec)

/-- ITS FALSE NEIGHBOUR: 'it returns false'. Refute it at one input. -/
def refinesWrong : ChangeSpec := { name := "refines", fn := fun _ => fun
  | [d] => { results := [.lit (.bool false)], args := [d] }
  | _ => none }
def RefinesWrongFalsely : Prop := refinesRow.holds Tryz.pinned (OpenSpec.ofChange refinesWrong)

/-- 'enginelaw.RefusedChangesNothing': WHATEVER THE INPUT: true; the input reads as it did. -/
def refusedChangesNothingSpec : ChangeSpec := { name := "refusedChangesNothing", fn := fun _ => fun
  | [d] => { results := [.lit (.bool true)], args := [d] }
  | _ => none }
def refusedChangesNothingRow : OpenClaim := { program := "qxb6500896agreat", sum := "f11d369b69ccd7c64ac0124e72efec05a0075ce39b34893871161f1715dd6c26", func := "e2e/enginelaw.RefusedChangesNothing", spec := "refusedChangesNothing", unfollowed := true, recurses := true, apart := false }
def RefusedChangesNothingSaid : Prop := refusedChangesNothingRow.holds Tryz.pinned (OpenSpec.ofChange refusedChangesNothingSpec)

/-- ITS FALSE NEIGHBOUR: 'it returns false'. Refute it at one input. -/
def refusedChangesNothingWrong : ChangeSpec := { name := "refusedChangesNothing", fn := fun _ => fun
  | [d] => { results := [.lit (.bool false)], args := [d] }
  | _ => none }
def RefusedChangesNothingWrongFalsely : Prop := refusedChangesNothingRow.holds Tryz.pinned (OpenSpec.ofChange refusedChangesNothingWrong)

/-- 'enginelaw.OccupancyBound': WHATEVER THE INPUT: true; the input reads as it did. -/
def occupancyBoundSpec : ChangeSpec := { name := "occupancyBound", fn := fun _ => fun
  | [d] => { results := [.lit (.bool true)], args := [d] }
  | _ => none }
def occupancyBoundRow : OpenClaim := { program := "qxb6500896agreat", sum := "f11d369b69ccd7c64ac0124e72efec05a0075ce39b34893871161f1715dd6c26", func := "e2e/enginelaw.OccupancyBound", spec := "occupancyBound", unfollowed := true, recurses := true, apart := false }
def OccupancyBoundSaid : Prop := occupancyBoundRow.holds Tryz.pinned (OpenSpec.ofChange occupancyBoundSpec)

/-- ITS FALSE NEIGHBOUR: 'it returns false'. Refute it at one input. -/
def occupancyBoundWrong : ChangeSpec := { name := "occupancyBound", fn := fun _ => fun
  | [d] => { results := [.lit (.bool false)], args := [d] }
  | _ => none }
def OccupancyBoundWrongFalsely : Prop := occupancyBoundRow.holds Tryz.pinned (OpenSpec.ofChange occupancyBoundWrong)

/-- 'enginelaw.CrashRecoversAPrefix': WHATEVER THE INPUT: true; the input reads as it did. -/
def crashRecoversAPrefixSpec : ChangeSpec := { name := "crashRecoversAPrefix", fn := fun _ => fun
  | [d] => { results := [.lit (.bool true)], args := [d] }
  | _ => none }
def crashRecoversAPrefixRow : OpenClaim := { program := "qxb6500896agreat", sum := "f11d369b69ccd7c64ac0124e72efec05a0075ce39b34893871161f1715dd6c26", func := "e2e/enginelaw.CrashRecoversAPrefix", spec := "crashRecoversAPrefix", unfollowed := true, recurses := true, apart := false }
def CrashRecoversAPrefixSaid : Prop := crashRecoversAPrefixRow.holds Tryz.pinned (OpenSpec.ofChange crashRecoversAPrefixSpec)

/-- ITS FALSE NEIGHBOUR: 'it returns false'. Refute it at one input. -/
def crashRecoversAPrefixWrong : ChangeSpec := { name := "crashRecoversAPrefix", fn := fun _ => fun
  | [d] => { results := [.lit (.bool false)], args := [d] }
  | _ => none }
def CrashRecoversAPrefixWrongFalsely : Prop := crashRecoversAPrefixRow.holds Tryz.pinned (OpenSpec.ofChange crashRecoversAPrefixWrong)

/-- 'enginelaw.BatchEqualsOneByOne': WHATEVER THE INPUT: true; the input reads as it did. -/
def batchEqualsOneByOneSpec : ChangeSpec := { name := "batchEqualsOneByOne", fn := fun _ => fun
  | [d] => { results := [.lit (.bool true)], args := [d] }
  | _ => none }
def batchEqualsOneByOneRow : OpenClaim := { program := "qxb6500896agreat", sum := "f11d369b69ccd7c64ac0124e72efec05a0075ce39b34893871161f1715dd6c26", func := "e2e/enginelaw.BatchEqualsOneByOne", spec := "batchEqualsOneByOne", unfollowed := true, recurses := true, apart := false }
def BatchEqualsOneByOneSaid : Prop := batchEqualsOneByOneRow.holds Tryz.pinned (OpenSpec.ofChange batchEqualsOneByOneSpec)

/-- ITS FALSE NEIGHBOUR: 'it returns false'. Refute it at one input. -/
def batchEqualsOneByOneWrong : ChangeSpec := { name := "batchEqualsOneByOne", fn := fun _ => fun
  | [d] => { results := [.lit (.bool false)], args := [d] }
  | _ => none }
def BatchEqualsOneByOneWrongFalsely : Prop := batchEqualsOneByOneRow.holds Tryz.pinned (OpenSpec.ofChange batchEqualsOneByOneWrong)

/-- 'enginelaw.StandbyServesTheOldestThatFits': WHATEVER THE INPUT: true; the input reads as it did. -/
def standbyServesTheOldestThatFitsSpec : ChangeSpec := { name := "standbyServesTheOldestThatFits", fn := fun _ => fun
  | [d] => { results := [.lit (.bool true)], args := [d] }
  | _ => none }
def standbyServesTheOldestThatFitsRow : OpenClaim := { program := "qxb6500896agreat", sum := "f11d369b69ccd7c64ac0124e72efec05a0075ce39b34893871161f1715dd6c26", func := "e2e/enginelaw.StandbyServesTheOldestThatFits", spec := "standbyServesTheOldestThatFits", unfollowed := true, recurses := true, apart := false }
def StandbyServesTheOldestThatFitsSaid : Prop := standbyServesTheOldestThatFitsRow.holds Tryz.pinned (OpenSpec.ofChange standbyServesTheOldestThatFitsSpec)

/-- ITS FALSE NEIGHBOUR: 'it returns false'. Refute it at one input. -/
def standbyServesTheOldestThatFitsWrong : ChangeSpec := { name := "standbyServesTheOldestThatFits", fn := fun _ => fun
  | [d] => { results := [.lit (.bool false)], args := [d] }
  | _ => none }
def StandbyServesTheOldestThatFitsWrongFalsely : Prop := standbyServesTheOldestThatFitsRow.holds Tryz.pinned (OpenSpec.ofChange standbyServesTheOldestThatFitsWrong)

/-- 'enginelaw.SnapshotsFollowThePolicy': WHATEVER THE INPUT: true; the input reads as it did. -/
def snapshotsFollowThePolicySpec : ChangeSpec := { name := "snapshotsFollowThePolicy", fn := fun _ => fun
  | [d] => { results := [.lit (.bool true)], args := [d] }
  | _ => none }
def snapshotsFollowThePolicyRow : OpenClaim := { program := "qxb6500896agreat", sum := "f11d369b69ccd7c64ac0124e72efec05a0075ce39b34893871161f1715dd6c26", func := "e2e/enginelaw.SnapshotsFollowThePolicy", spec := "snapshotsFollowThePolicy", apart := false }
def SnapshotsFollowThePolicySaid : Prop := snapshotsFollowThePolicyRow.holds Tryz.pinned (OpenSpec.ofChange snapshotsFollowThePolicySpec)

/-- ITS FALSE NEIGHBOUR: 'it returns false'. Refute it at one input. -/
def snapshotsFollowThePolicyWrong : ChangeSpec := { name := "snapshotsFollowThePolicy", fn := fun _ => fun
  | [d] => { results := [.lit (.bool false)], args := [d] }
  | _ => none }
def SnapshotsFollowThePolicyWrongFalsely : Prop := snapshotsFollowThePolicyRow.holds Tryz.pinned (OpenSpec.ofChange snapshotsFollowThePolicyWrong)

/-- 'enginelaw.GapsInTheJournalAreRefused': WHATEVER THE INPUT: true; the input reads as it did. -/
def gapsInTheJournalAreRefusedSpec : ChangeSpec := { name := "gapsInTheJournalAreRefused", fn := fun _ => fun
  | [d] => { results := [.lit (.bool true)], args := [d] }
  | _ => none }
def gapsInTheJournalAreRefusedRow : OpenClaim := { program := "qxb6500896agreat", sum := "f11d369b69ccd7c64ac0124e72efec05a0075ce39b34893871161f1715dd6c26", func := "e2e/enginelaw.GapsInTheJournalAreRefused", spec := "gapsInTheJournalAreRefused", apart := false }
def GapsInTheJournalAreRefusedSaid : Prop := gapsInTheJournalAreRefusedRow.holds Tryz.pinned (OpenSpec.ofChange gapsInTheJournalAreRefusedSpec)

/-- ITS FALSE NEIGHBOUR: 'it returns false'. Refute it at one input. -/
def gapsInTheJournalAreRefusedWrong : ChangeSpec := { name := "gapsInTheJournalAreRefused", fn := fun _ => fun
  | [d] => { results := [.lit (.bool false)], args := [d] }
  | _ => none }
def GapsInTheJournalAreRefusedWrongFalsely : Prop := gapsInTheJournalAreRefusedRow.holds Tryz.pinned (OpenSpec.ofChange gapsInTheJournalAreRefusedWrong)

/-- 'enginelaw.StreamEqualsRequests': WHATEVER THE INPUT: true; the input reads as it did. -/
def streamEqualsRequestsSpec : ChangeSpec := { name := "streamEqualsRequests", fn := fun _ => fun
  | [d] => { results := [.lit (.bool true)], args := [d] }
  | _ => none }
def streamEqualsRequestsRow : OpenClaim := { program := "qxb6500896agreat", sum := "f11d369b69ccd7c64ac0124e72efec05a0075ce39b34893871161f1715dd6c26", func := "e2e/enginelaw.StreamEqualsRequests", spec := "streamEqualsRequests", unfollowed := true, recurses := true, apart := false }
def StreamEqualsRequestsSaid : Prop := streamEqualsRequestsRow.holds Tryz.pinned (OpenSpec.ofChange streamEqualsRequestsSpec)

/-- ITS FALSE NEIGHBOUR: 'it returns false'. Refute it at one input. -/
def streamEqualsRequestsWrong : ChangeSpec := { name := "streamEqualsRequests", fn := fun _ => fun
  | [d] => { results := [.lit (.bool false)], args := [d] }
  | _ => none }
def StreamEqualsRequestsWrongFalsely : Prop := streamEqualsRequestsRow.holds Tryz.pinned (OpenSpec.ofChange streamEqualsRequestsWrong)

/-- 'enginelaw.FullLogRefusesCleanly': WHATEVER THE INPUT: true; the input reads as it did. -/
def fullLogRefusesCleanlySpec : ChangeSpec := { name := "fullLogRefusesCleanly", fn := fun _ => fun
  | [d] => { results := [.lit (.bool true)], args := [d] }
  | _ => none }
def fullLogRefusesCleanlyRow : OpenClaim := { program := "qxb6500896agreat", sum := "f11d369b69ccd7c64ac0124e72efec05a0075ce39b34893871161f1715dd6c26", func := "e2e/enginelaw.FullLogRefusesCleanly", spec := "fullLogRefusesCleanly", unfollowed := true, recurses := true, apart := false }
def FullLogRefusesCleanlySaid : Prop := fullLogRefusesCleanlyRow.holds Tryz.pinned (OpenSpec.ofChange fullLogRefusesCleanlySpec)

/-- ITS FALSE NEIGHBOUR: 'it returns false'. Refute it at one input. -/
def fullLogRefusesCleanlyWrong : ChangeSpec := { name := "fullLogRefusesCleanly", fn := fun _ => fun
  | [d] => { results := [.lit (.bool false)], args := [d] }
  | _ => none }
def FullLogRefusesCleanlyWrongFalsely : Prop := fullLogRefusesCleanlyRow.holds Tryz.pinned (OpenSpec.ofChange fullLogRefusesCleanlyWrong)

/-- 'enginelaw.QuoteForetellsHold': WHATEVER THE INPUT: true; the input reads as it did. -/
def quoteForetellsHoldSpec : ChangeSpec := { name := "quoteForetellsHold", fn := fun _ => fun
  | [d] => { results := [.lit (.bool true)], args := [d] }
  | _ => none }
def quoteForetellsHoldRow : OpenClaim := { program := "qxb6500896agreat", sum := "f11d369b69ccd7c64ac0124e72efec05a0075ce39b34893871161f1715dd6c26", func := "e2e/enginelaw.QuoteForetellsHold", spec := "quoteForetellsHold", apart := false }
def QuoteForetellsHoldSaid : Prop := quoteForetellsHoldRow.holds Tryz.pinned (OpenSpec.ofChange quoteForetellsHoldSpec)

/-- ITS FALSE NEIGHBOUR: 'it returns false'. Refute it at one input. -/
def quoteForetellsHoldWrong : ChangeSpec := { name := "quoteForetellsHold", fn := fun _ => fun
  | [d] => { results := [.lit (.bool false)], args := [d] }
  | _ => none }
def QuoteForetellsHoldWrongFalsely : Prop := quoteForetellsHoldRow.holds Tryz.pinned (OpenSpec.ofChange quoteForetellsHoldWrong)

/-- 'enginelaw.DoEqualsHandle': WHATEVER THE INPUT: true; the input reads as it did. -/
def doEqualsHandleSpec : ChangeSpec := { name := "doEqualsHandle", fn := fun _ => fun
  | [d] => { results := [.lit (.bool true)], args := [d] }
  | _ => none }
def doEqualsHandleRow : OpenClaim := { program := "qxb6500896agreat", sum := "f11d369b69ccd7c64ac0124e72efec05a0075ce39b34893871161f1715dd6c26", func := "e2e/enginelaw.DoEqualsHandle", spec := "doEqualsHandle", unfollowed := true, recurses := true, apart := false }
def DoEqualsHandleSaid : Prop := doEqualsHandleRow.holds Tryz.pinned (OpenSpec.ofChange doEqualsHandleSpec)

/-- ITS FALSE NEIGHBOUR: 'it returns false'. Refute it at one input. -/
def doEqualsHandleWrong : ChangeSpec := { name := "doEqualsHandle", fn := fun _ => fun
  | [d] => { results := [.lit (.bool false)], args := [d] }
  | _ => none }
def DoEqualsHandleWrongFalsely : Prop := doEqualsHandleRow.holds Tryz.pinned (OpenSpec.ofChange doEqualsHandleWrong)

/-- 'enginelaw.OtherRulesAreRefused': WHATEVER THE INPUT: true; the input reads as it did. -/
def otherRulesAreRefusedSpec : ChangeSpec := { name := "otherRulesAreRefused", fn := fun _ => fun
  | [d] => { results := [.lit (.bool true)], args := [d] }
  | _ => none }
def otherRulesAreRefusedRow : OpenClaim := { program := "qxb6500896agreat", sum := "f11d369b69ccd7c64ac0124e72efec05a0075ce39b34893871161f1715dd6c26", func := "e2e/enginelaw.OtherRulesAreRefused", spec := "otherRulesAreRefused", apart := false }
def OtherRulesAreRefusedSaid : Prop := otherRulesAreRefusedRow.holds Tryz.pinned (OpenSpec.ofChange otherRulesAreRefusedSpec)

/-- ITS FALSE NEIGHBOUR: 'it returns false'. Refute it at one input. -/
def otherRulesAreRefusedWrong : ChangeSpec := { name := "otherRulesAreRefused", fn := fun _ => fun
  | [d] => { results := [.lit (.bool false)], args := [d] }
  | _ => none }
def OtherRulesAreRefusedWrongFalsely : Prop := otherRulesAreRefusedRow.holds Tryz.pinned (OpenSpec.ofChange otherRulesAreRefusedWrong)

/-- 'enginelaw.ConfigIsChecked': WHATEVER THE INPUT: true; the input reads as it did. -/
def configIsCheckedSpec : ChangeSpec := { name := "configIsChecked", fn := fun _ => fun
  | [] => { results := [.lit (.bool true)], args := [] }
  | _ => none }
def configIsCheckedRow : OpenClaim := { program := "qxb6500896agreat", sum := "f11d369b69ccd7c64ac0124e72efec05a0075ce39b34893871161f1715dd6c26", func := "e2e/enginelaw.ConfigIsChecked", spec := "configIsChecked", unfollowed := true, recurses := true, apart := false }
def ConfigIsCheckedSaid : Prop := configIsCheckedRow.holds Tryz.pinned (OpenSpec.ofChange configIsCheckedSpec)

/-- ITS FALSE NEIGHBOUR: 'it returns false'. Refute it at one input. -/
def configIsCheckedWrong : ChangeSpec := { name := "configIsChecked", fn := fun _ => fun
  | [] => { results := [.lit (.bool false)], args := [] }
  | _ => none }
def ConfigIsCheckedWrongFalsely : Prop := configIsCheckedRow.holds Tryz.pinned (OpenSpec.ofChange configIsCheckedWrong)

end Rows
end Go.Proofs.Qxb6500896aGreat
