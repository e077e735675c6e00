/-
  No cell of these rows narrows 'for every input' (looked for: loops, veiled, ifaces, maps, wideKeys, modest, calm, conditions, laid).
  DERIVED. THE GIVEN ROWS OF THIS SEAT. 8 by the template 'for every input the law returns true; each argument reads behind the call as it read before'; 0 by the template 'total and deterministic' (their statements: Qxb6500895aTotals.lean).
  GIVEN WITH THE SEED: the statements are not yours to turn. If you find one false, say at which input.
  Laid BY PROGRAM, IN A SANDBOX (cutbox-rows.mjs): the forced cells as the released guide's own fill.sh prints them over the translation 5e9ded8f54a86d99… (all of the seat's roots in one cut). By AI agents, Wed Nov 11 2026. No macro, syntax, notation, axiom, sorry.
-/
import Derived.Test.Qxb6500895aChecked
import GoSem.Claim
import GoSem.ClaimJoined
import GoSem.ClaimMapViews
import Derived.JoinedTies
import Derived.KernelRfl
namespace Go.Proofs.Qxb6500895a
/- THE CELL 'sum', in the pinned program and in every row, IS THE sha256 OF THE DUMP (.gsa) THAT Qxb6500895aProg.lean LOADS. Nothing in Lean hashes anything: it is a label: what it is worth is what the hold of that sum in a sandbox is worth. -/
noncomputable def Try.pinned : Pinned := { name := "qxb6500895a", sum := "5e9ded8f54a86d998db33acb0c780502bcf85ed66ba5f25e8daddc310205c2a6", checked := Try.checked }
namespace Rows
def none {H : Type} : Left H := { results := [], args := [] }

/-- 'disklaw.Refines': WHATEVER THE INPUT: true; the input reads as it did. -/
def refinesSpec : ChangeSpec := { name := "refines", fn := fun _ => fun
  | [d] => { results := [.lit (.bool true)], args := [d] }
  | _ => none }
def refinesRow : OpenClaim := { program := "qxb6500895a", sum := "5e9ded8f54a86d998db33acb0c780502bcf85ed66ba5f25e8daddc310205c2a6", func := "e2e/disklaw.Refines", spec := "refines", apart := false }
def RefinesSaid : Prop := refinesRow.holds Try.pinned (OpenSpec.ofChange refinesSpec)

/-- ITS FALSE NEIGHBOUR: 'it returns false'. Refute it at one input. -/
def refinesWrong : ChangeSpec := { name := "refines", fn := fun _ => fun
  | [d] => { results := [.lit (.bool false)], args := [d] }
  | _ => none }
def RefinesWrongFalsely : Prop := refinesRow.holds Try.pinned (OpenSpec.ofChange refinesWrong)

/-- 'disklaw.ReadReturnsLastWrite': WHATEVER THE INPUT: true; the input reads as it did. -/
def readReturnsLastWriteSpec : ChangeSpec := { name := "readReturnsLastWrite", fn := fun _ => fun
  | [d] => { results := [.lit (.bool true)], args := [d] }
  | _ => none }
def readReturnsLastWriteRow : OpenClaim := { program := "qxb6500895a", sum := "5e9ded8f54a86d998db33acb0c780502bcf85ed66ba5f25e8daddc310205c2a6", func := "e2e/disklaw.ReadReturnsLastWrite", spec := "readReturnsLastWrite", apart := false }
def ReadReturnsLastWriteSaid : Prop := readReturnsLastWriteRow.holds Try.pinned (OpenSpec.ofChange readReturnsLastWriteSpec)

/-- ITS FALSE NEIGHBOUR: 'it returns false'. Refute it at one input. -/
def readReturnsLastWriteWrong : ChangeSpec := { name := "readReturnsLastWrite", fn := fun _ => fun
  | [d] => { results := [.lit (.bool false)], args := [d] }
  | _ => none }
def ReadReturnsLastWriteWrongFalsely : Prop := readReturnsLastWriteRow.holds Try.pinned (OpenSpec.ofChange readReturnsLastWriteWrong)

/-- 'disklaw.CrashLeavesWhatThePlanSays': WHATEVER THE INPUT: true; the input reads as it did. -/
def crashLeavesWhatThePlanSaysSpec : ChangeSpec := { name := "crashLeavesWhatThePlanSays", fn := fun _ => fun
  | [d] => { results := [.lit (.bool true)], args := [d] }
  | _ => none }
def crashLeavesWhatThePlanSaysRow : OpenClaim := { program := "qxb6500895a", sum := "5e9ded8f54a86d998db33acb0c780502bcf85ed66ba5f25e8daddc310205c2a6", func := "e2e/disklaw.CrashLeavesWhatThePlanSays", spec := "crashLeavesWhatThePlanSays", apart := false }
def CrashLeavesWhatThePlanSaysSaid : Prop := crashLeavesWhatThePlanSaysRow.holds Try.pinned (OpenSpec.ofChange crashLeavesWhatThePlanSaysSpec)

/-- ITS FALSE NEIGHBOUR: 'it returns false'. Refute it at one input. -/
def crashLeavesWhatThePlanSaysWrong : ChangeSpec := { name := "crashLeavesWhatThePlanSays", fn := fun _ => fun
  | [d] => { results := [.lit (.bool false)], args := [d] }
  | _ => none }
def CrashLeavesWhatThePlanSaysWrongFalsely : Prop := crashLeavesWhatThePlanSaysRow.holds Try.pinned (OpenSpec.ofChange crashLeavesWhatThePlanSaysWrong)

/-- 'disklaw.RefusedChangesNothing': WHATEVER THE INPUT: true; the input reads as it did. -/
def refusedChangesNothingSpec : ChangeSpec := { name := "refusedChangesNothing", fn := fun _ => fun
  | [d] => { results := [.lit (.bool true)], args := [d] }
  | _ => none }
def refusedChangesNothingRow : OpenClaim := { program := "qxb6500895a", sum := "5e9ded8f54a86d998db33acb0c780502bcf85ed66ba5f25e8daddc310205c2a6", func := "e2e/disklaw.RefusedChangesNothing", spec := "refusedChangesNothing", apart := false }
def RefusedChangesNothingSaid : Prop := refusedChangesNothingRow.holds Try.pinned (OpenSpec.ofChange refusedChangesNothingSpec)

/-- ITS FALSE NEIGHBOUR: 'it returns false'. Refute it at one input. -/
def refusedChangesNothingWrong : ChangeSpec := { name := "refusedChangesNothing", fn := fun _ => fun
  | [d] => { results := [.lit (.bool false)], args := [d] }
  | _ => none }
def RefusedChangesNothingWrongFalsely : Prop := refusedChangesNothingRow.holds Try.pinned (OpenSpec.ofChange refusedChangesNothingWrong)

/-- 'disklaw.ArmedCrashEqualsCrash': WHATEVER THE INPUT: true; the input reads as it did. -/
def armedCrashEqualsCrashSpec : ChangeSpec := { name := "armedCrashEqualsCrash", fn := fun _ => fun
  | [d] => { results := [.lit (.bool true)], args := [d] }
  | _ => none }
def armedCrashEqualsCrashRow : OpenClaim := { program := "qxb6500895a", sum := "5e9ded8f54a86d998db33acb0c780502bcf85ed66ba5f25e8daddc310205c2a6", func := "e2e/disklaw.ArmedCrashEqualsCrash", spec := "armedCrashEqualsCrash", apart := false }
def ArmedCrashEqualsCrashSaid : Prop := armedCrashEqualsCrashRow.holds Try.pinned (OpenSpec.ofChange armedCrashEqualsCrashSpec)

/-- ITS FALSE NEIGHBOUR: 'it returns false'. Refute it at one input. -/
def armedCrashEqualsCrashWrong : ChangeSpec := { name := "armedCrashEqualsCrash", fn := fun _ => fun
  | [d] => { results := [.lit (.bool false)], args := [d] }
  | _ => none }
def ArmedCrashEqualsCrashWrongFalsely : Prop := armedCrashEqualsCrashRow.holds Try.pinned (OpenSpec.ofChange armedCrashEqualsCrashWrong)

/-- 'disklaw.CloneIsApart': WHATEVER THE INPUT: true; the input reads as it did. -/
def cloneIsApartSpec : ChangeSpec := { name := "cloneIsApart", fn := fun _ => fun
  | [d] => { results := [.lit (.bool true)], args := [d] }
  | _ => none }
def cloneIsApartRow : OpenClaim := { program := "qxb6500895a", sum := "5e9ded8f54a86d998db33acb0c780502bcf85ed66ba5f25e8daddc310205c2a6", func := "e2e/disklaw.CloneIsApart", spec := "cloneIsApart", apart := false }
def CloneIsApartSaid : Prop := cloneIsApartRow.holds Try.pinned (OpenSpec.ofChange cloneIsApartSpec)

/-- ITS FALSE NEIGHBOUR: 'it returns false'. Refute it at one input. -/
def cloneIsApartWrong : ChangeSpec := { name := "cloneIsApart", fn := fun _ => fun
  | [d] => { results := [.lit (.bool false)], args := [d] }
  | _ => none }
def CloneIsApartWrongFalsely : Prop := cloneIsApartRow.holds Try.pinned (OpenSpec.ofChange cloneIsApartWrong)

/-- 'disklaw.CallerKeepsItsMemory': WHATEVER THE INPUT: true; the input reads as it did. -/
def callerKeepsItsMemorySpec : ChangeSpec := { name := "callerKeepsItsMemory", fn := fun _ => fun
  | [d] => { results := [.lit (.bool true)], args := [d] }
  | _ => none }
def callerKeepsItsMemoryRow : OpenClaim := { program := "qxb6500895a", sum := "5e9ded8f54a86d998db33acb0c780502bcf85ed66ba5f25e8daddc310205c2a6", func := "e2e/disklaw.CallerKeepsItsMemory", spec := "callerKeepsItsMemory", apart := false }
def CallerKeepsItsMemorySaid : Prop := callerKeepsItsMemoryRow.holds Try.pinned (OpenSpec.ofChange callerKeepsItsMemorySpec)

/-- ITS FALSE NEIGHBOUR: 'it returns false'. Refute it at one input. -/
def callerKeepsItsMemoryWrong : ChangeSpec := { name := "callerKeepsItsMemory", fn := fun _ => fun
  | [d] => { results := [.lit (.bool false)], args := [d] }
  | _ => none }
def CallerKeepsItsMemoryWrongFalsely : Prop := callerKeepsItsMemoryRow.holds Try.pinned (OpenSpec.ofChange callerKeepsItsMemoryWrong)

/-- 'disklaw.GeometryIsChecked': WHATEVER THE INPUT: true; the input reads as it did. -/
def geometryIsCheckedSpec : ChangeSpec := { name := "geometryIsChecked", fn := fun _ => fun
  | [] => { results := [.lit (.bool true)], args := [] }
  | _ => none }
def geometryIsCheckedRow : OpenClaim := { program := "qxb6500895a", sum := "5e9ded8f54a86d998db33acb0c780502bcf85ed66ba5f25e8daddc310205c2a6", func := "e2e/disklaw.GeometryIsChecked", spec := "geometryIsChecked", apart := false }
def GeometryIsCheckedSaid : Prop := geometryIsCheckedRow.holds Try.pinned (OpenSpec.ofChange geometryIsCheckedSpec)

/-- ITS FALSE NEIGHBOUR: 'it returns false'. Refute it at one input. -/
def geometryIsCheckedWrong : ChangeSpec := { name := "geometryIsChecked", fn := fun _ => fun
  | [] => { results := [.lit (.bool false)], args := [] }
  | _ => none }
def GeometryIsCheckedWrongFalsely : Prop := geometryIsCheckedRow.holds Try.pinned (OpenSpec.ofChange geometryIsCheckedWrong)

end Rows
end Go.Proofs.Qxb6500895a
