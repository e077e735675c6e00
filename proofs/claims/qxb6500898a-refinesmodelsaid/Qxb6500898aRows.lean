/-
  No cell of these rows narrows 'for every input' (looked for: loops, veiled, ifaces, maps, wideKeys, modest, calm, conditions, laid).
  DERIVED. THE GIVEN ROWS OF THIS SEAT. 7 by the template 'for every input the law returns true; each argument reads behind the call as it read before'; 0 by the template 'total and deterministic' (their statements: Qxb6500898aTotals.lean).
  GIVEN WITH THE SEED: the statements are not yours to turn. If you find one false, say at which input.
  Laid BY PROGRAM, IN A SANDBOX (cutbox-rows.mjs): the forced cells as the released guide's own fill.sh prints them over the translation eb2c0463a8e3abe1… (all of the seat's roots in one cut). By AI agents, Wed Nov 11 2026. No macro, syntax, notation, axiom, sorry.
-/
import Derived.Test.Qxb6500898aChecked
import GoSem.Claim
import GoSem.ClaimJoined
import GoSem.ClaimMapViews
import Derived.JoinedTies
import Derived.KernelRfl
namespace Go.Proofs.Qxb6500898a
/- THE CELL 'sum', in the pinned program and in every row, IS THE sha256 OF THE DUMP (.gsa) THAT Qxb6500898aProg.lean LOADS. Nothing in Lean hashes anything: it is a label: what it is worth is what the hold of that sum in a sandbox is worth. -/
noncomputable def Try.pinned : Pinned := { name := "qxb6500898a", sum := "eb2c0463a8e3abe1e1b7174b34ef5f29d9440d1b1a8493ffdbe4cc57968e8f9f", checked := Try.checked }
namespace Rows
def none {H : Type} : Left H := { results := [], args := [] }

/-- 'octetslaw.RefinesModel': WHATEVER THE INPUT: true; the input reads as it did. -/
def refinesModelSpec : ChangeSpec := { name := "refinesModel", fn := fun _ => fun
  | [d] => { results := [.lit (.bool true)], args := [d] }
  | _ => none }
def refinesModelRow : OpenClaim := { program := "qxb6500898a", sum := "eb2c0463a8e3abe1e1b7174b34ef5f29d9440d1b1a8493ffdbe4cc57968e8f9f", func := "e2e/octetslaw.RefinesModel", spec := "refinesModel", apart := false }
def RefinesModelSaid : Prop := refinesModelRow.holds Try.pinned (OpenSpec.ofChange refinesModelSpec)

/-- ITS FALSE NEIGHBOUR: 'it returns false'. Refute it at one input. -/
def refinesModelWrong : ChangeSpec := { name := "refinesModel", fn := fun _ => fun
  | [d] => { results := [.lit (.bool false)], args := [d] }
  | _ => none }
def RefinesModelWrongFalsely : Prop := refinesModelRow.holds Try.pinned (OpenSpec.ofChange refinesModelWrong)

/-- 'octetslaw.RotationTurnsBack': WHATEVER THE INPUT: true; the input reads as it did. -/
def rotationTurnsBackSpec : ChangeSpec := { name := "rotationTurnsBack", fn := fun _ => fun
  | [d] => { results := [.lit (.bool true)], args := [d] }
  | _ => none }
def rotationTurnsBackRow : OpenClaim := { program := "qxb6500898a", sum := "eb2c0463a8e3abe1e1b7174b34ef5f29d9440d1b1a8493ffdbe4cc57968e8f9f", func := "e2e/octetslaw.RotationTurnsBack", spec := "rotationTurnsBack", apart := false }
def RotationTurnsBackSaid : Prop := rotationTurnsBackRow.holds Try.pinned (OpenSpec.ofChange rotationTurnsBackSpec)

/-- ITS FALSE NEIGHBOUR: 'it returns false'. Refute it at one input. -/
def rotationTurnsBackWrong : ChangeSpec := { name := "rotationTurnsBack", fn := fun _ => fun
  | [d] => { results := [.lit (.bool false)], args := [d] }
  | _ => none }
def RotationTurnsBackWrongFalsely : Prop := rotationTurnsBackRow.holds Try.pinned (OpenSpec.ofChange rotationTurnsBackWrong)

/-- 'octetslaw.CompareAndUTF16': WHATEVER THE INPUT: true; the input reads as it did. -/
def compareAndUTF16Spec : ChangeSpec := { name := "compareAndUTF16", fn := fun _ => fun
  | [d] => { results := [.lit (.bool true)], args := [d] }
  | _ => none }
def compareAndUTF16Row : OpenClaim := { program := "qxb6500898a", sum := "eb2c0463a8e3abe1e1b7174b34ef5f29d9440d1b1a8493ffdbe4cc57968e8f9f", func := "e2e/octetslaw.CompareAndUTF16", spec := "compareAndUTF16", apart := false }
def CompareAndUTF16Said : Prop := compareAndUTF16Row.holds Try.pinned (OpenSpec.ofChange compareAndUTF16Spec)

/-- ITS FALSE NEIGHBOUR: 'it returns false'. Refute it at one input. -/
def compareAndUTF16Wrong : ChangeSpec := { name := "compareAndUTF16", fn := fun _ => fun
  | [d] => { results := [.lit (.bool false)], args := [d] }
  | _ => none }
def CompareAndUTF16WrongFalsely : Prop := compareAndUTF16Row.holds Try.pinned (OpenSpec.ofChange compareAndUTF16Wrong)

/-- 'octetslaw.SumIsOnesComplement': WHATEVER THE INPUT: true; the input reads as it did. -/
def sumIsOnesComplementSpec : ChangeSpec := { name := "sumIsOnesComplement", fn := fun _ => fun
  | [d] => { results := [.lit (.bool true)], args := [d] }
  | _ => none }
def sumIsOnesComplementRow : OpenClaim := { program := "qxb6500898a", sum := "eb2c0463a8e3abe1e1b7174b34ef5f29d9440d1b1a8493ffdbe4cc57968e8f9f", func := "e2e/octetslaw.SumIsOnesComplement", spec := "sumIsOnesComplement", apart := false }
def SumIsOnesComplementSaid : Prop := sumIsOnesComplementRow.holds Try.pinned (OpenSpec.ofChange sumIsOnesComplementSpec)

/-- ITS FALSE NEIGHBOUR: 'it returns false'. Refute it at one input. -/
def sumIsOnesComplementWrong : ChangeSpec := { name := "sumIsOnesComplement", fn := fun _ => fun
  | [d] => { results := [.lit (.bool false)], args := [d] }
  | _ => none }
def SumIsOnesComplementWrongFalsely : Prop := sumIsOnesComplementRow.holds Try.pinned (OpenSpec.ofChange sumIsOnesComplementWrong)

/-- 'octetslaw.StoreThenLoad': WHATEVER THE INPUT: true; the input reads as it did. -/
def storeThenLoadSpec : ChangeSpec := { name := "storeThenLoad", fn := fun _ => fun
  | [d] => { results := [.lit (.bool true)], args := [d] }
  | _ => none }
def storeThenLoadRow : OpenClaim := { program := "qxb6500898a", sum := "eb2c0463a8e3abe1e1b7174b34ef5f29d9440d1b1a8493ffdbe4cc57968e8f9f", func := "e2e/octetslaw.StoreThenLoad", spec := "storeThenLoad", apart := false }
def StoreThenLoadSaid : Prop := storeThenLoadRow.holds Try.pinned (OpenSpec.ofChange storeThenLoadSpec)

/-- ITS FALSE NEIGHBOUR: 'it returns false'. Refute it at one input. -/
def storeThenLoadWrong : ChangeSpec := { name := "storeThenLoad", fn := fun _ => fun
  | [d] => { results := [.lit (.bool false)], args := [d] }
  | _ => none }
def StoreThenLoadWrongFalsely : Prop := storeThenLoadRow.holds Try.pinned (OpenSpec.ofChange storeThenLoadWrong)

/-- 'octetslaw.RefusalTouchesNothing': WHATEVER THE INPUT: true; the input reads as it did. -/
def refusalTouchesNothingSpec : ChangeSpec := { name := "refusalTouchesNothing", fn := fun _ => fun
  | [d] => { results := [.lit (.bool true)], args := [d] }
  | _ => none }
def refusalTouchesNothingRow : OpenClaim := { program := "qxb6500898a", sum := "eb2c0463a8e3abe1e1b7174b34ef5f29d9440d1b1a8493ffdbe4cc57968e8f9f", func := "e2e/octetslaw.RefusalTouchesNothing", spec := "refusalTouchesNothing", apart := false }
def RefusalTouchesNothingSaid : Prop := refusalTouchesNothingRow.holds Try.pinned (OpenSpec.ofChange refusalTouchesNothingSpec)

/-- ITS FALSE NEIGHBOUR: 'it returns false'. Refute it at one input. -/
def refusalTouchesNothingWrong : ChangeSpec := { name := "refusalTouchesNothing", fn := fun _ => fun
  | [d] => { results := [.lit (.bool false)], args := [d] }
  | _ => none }
def RefusalTouchesNothingWrongFalsely : Prop := refusalTouchesNothingRow.holds Try.pinned (OpenSpec.ofChange refusalTouchesNothingWrong)

/-- 'octetslaw.UTF16EveryCodePoint': WHATEVER THE INPUT: true; the input reads as it did. -/
def uTF16EveryCodePointSpec : ChangeSpec := { name := "uTF16EveryCodePoint", fn := fun _ => fun
  | [] => { results := [.lit (.bool true)], args := [] }
  | _ => none }
def uTF16EveryCodePointRow : OpenClaim := { program := "qxb6500898a", sum := "eb2c0463a8e3abe1e1b7174b34ef5f29d9440d1b1a8493ffdbe4cc57968e8f9f", func := "e2e/octetslaw.UTF16EveryCodePoint", spec := "uTF16EveryCodePoint", apart := false }
def UTF16EveryCodePointSaid : Prop := uTF16EveryCodePointRow.holds Try.pinned (OpenSpec.ofChange uTF16EveryCodePointSpec)

/-- ITS FALSE NEIGHBOUR: 'it returns false'. Refute it at one input. -/
def uTF16EveryCodePointWrong : ChangeSpec := { name := "uTF16EveryCodePoint", fn := fun _ => fun
  | [] => { results := [.lit (.bool false)], args := [] }
  | _ => none }
def UTF16EveryCodePointWrongFalsely : Prop := uTF16EveryCodePointRow.holds Try.pinned (OpenSpec.ofChange uTF16EveryCodePointWrong)

end Rows
end Go.Proofs.Qxb6500898a
