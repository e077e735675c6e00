/-
  NARROWER THAN 'FOR EVERY INPUT', by the rows' own cells (each row's printed sentence says how): EqualValuesIsEquality: loops.
  DERIVED. THE GIVEN ROWS OF THIS SEAT. 1 by the template 'for every input the law returns true; each argument reads behind the call as it read before'; 0 by the template 'total and deterministic' (their statements: Qxb6500894aTotals.lean).
  GIVEN WITH THE SEED: the statements are not yours to turn. If you find one false, say at which input.
  Laid BY PROGRAM, IN A SANDBOX (cutbox-rows.mjs): the forced cells as the released guide's own fill.sh prints them over the translation 59cf8de9a1e9393c… (all of the seat's roots in one cut). By AI agents, Wed Nov 11 2026. No macro, syntax, notation, axiom, sorry.
-/
import Derived.Test.Qxb6500894aChecked
import GoSem.Claim
import GoSem.ClaimJoined
import GoSem.ClaimMapViews
import Derived.JoinedTies
import Derived.KernelRfl
namespace Go.Proofs.Qxb6500894a
/- THE CELL 'sum', in the pinned program and in every row, IS THE sha256 OF THE DUMP (.gsa) THAT Qxb6500894aProg.lean LOADS. Nothing in Lean hashes anything: it is a label: what it is worth is what the hold of that sum in a sandbox is worth. -/
noncomputable def Try.pinned : Pinned := { name := "qxb6500894a", sum := "59cf8de9a1e9393c3b0333f9a36efe0c74c7fdbfe968766832503f5904b562fc", checked := Try.checked }
namespace Rows
def none {H : Type} : Left H := { results := [], args := [] }

/-- 'recordlaw.EqualValuesIsEquality': WHATEVER THE INPUT: true; the input reads as it did. -/
def equalValuesIsEqualitySpec : ChangeSpec := { name := "equalValuesIsEquality", fn := fun _ => fun
  | [d] => { results := [.lit (.bool true)], args := [d] }
  | _ => none }
def equalValuesIsEqualityRow : OpenClaim := { program := "qxb6500894a", sum := "59cf8de9a1e9393c3b0333f9a36efe0c74c7fdbfe968766832503f5904b562fc", func := "e2e/recordlaw.EqualValuesIsEquality", spec := "equalValuesIsEquality", recurses := true, loops := true, apart := false }
def EqualValuesIsEqualitySaid : Prop := equalValuesIsEqualityRow.holds Try.pinned (OpenSpec.ofChange equalValuesIsEqualitySpec)

/-- ITS FALSE NEIGHBOUR: 'it returns false'. Refute it at one input. -/
def equalValuesIsEqualityWrong : ChangeSpec := { name := "equalValuesIsEquality", fn := fun _ => fun
  | [d] => { results := [.lit (.bool false)], args := [d] }
  | _ => none }
def EqualValuesIsEqualityWrongFalsely : Prop := equalValuesIsEqualityRow.holds Try.pinned (OpenSpec.ofChange equalValuesIsEqualityWrong)

end Rows
end Go.Proofs.Qxb6500894a
