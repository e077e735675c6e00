/-
  NARROWER THAN 'FOR EVERY INPUT', by the rows' own cells (each row's printed sentence says how): ClassifierIsTotalWithFixedPriority: loops, laid · VerdictIgnoresOrder: loops, laid · SpillRoundTrips: loops, laid · DecodersAcceptOnlyEncodings: loops, laid · ValidRecordsFitAFrame: loops, laid · RejectionRoundTrips: loops, laid · QuarantineIsExact: loops, laid.
  DERIVED. THE GIVEN ROWS OF THIS SEAT. 7 by the template 'for every input the law returns true; each argument reads behind the call as it read before'; 0 by the template 'total and deterministic' (their statements: Qxb6500894aDoorTotals.lean).
  GIVEN WITH THE SEED: the statements are not yours to turn. If you find one false, say at which input.
  Laid BY PROGRAM, IN A SANDBOX (cutbox-rows.mjs): the forced cells as the released guide's own fill.sh prints them over the translation bd0c048dbfd8b348… (all of the seat's roots in one cut). By AI agents, Wed Nov 11 2026. No macro, syntax, notation, axiom, sorry.
-/
import Derived.Test.Qxb6500894aDoorChecked
import GoSem.PinnedTables
import GoSem.Claim
import GoSem.ClaimJoined
import GoSem.ClaimMapViews
import Derived.JoinedTies
import Derived.KernelRfl
namespace Go.Proofs.Qxb6500894aDoor
/- THE CELL 'sum', in the pinned program and in every row, IS THE sha256 OF THE DUMP (.gsa) THAT Qxb6500894aDoorProg.lean LOADS. Nothing in Lean hashes anything: it is a label: what it is worth is what the hold of that sum in a sandbox is worth. -/
noncomputable def Tryd.pinned : Pinned := { name := "qxb6500894adoor", sum := "bd0c048dbfd8b34887d152a0b37ac8e5f7c4842d915b807fb4f3db332d20c116", checked := Tryd.checked }
namespace Rows
def none {H : Type} : Left H := { results := [], args := [] }

/- WHAT THE LISTED PACKAGE-LEVEL VARIABLES READ AS WHEN THE CALL BEGINS. Each datum BY PROGRAM (the guide's laid-datum.mjs) off the statement by which the dump's own 'gosem.cut.vars' lays the variable. In a bare row this is a premise. The card (Qxb6500894aDoorCards.lean) ties it to the program's text. -/
def laid_math_bits_deBruijn32tab {H : Type} : DataW H := .agg [.lit (.int .u8 0), .lit (.int .u8 1), .lit (.int .u8 28), .lit (.int .u8 2), .lit (.int .u8 29), .lit (.int .u8 14), .lit (.int .u8 24), .lit (.int .u8 3), .lit (.int .u8 30), .lit (.int .u8 22), .lit (.int .u8 20), .lit (.int .u8 15), .lit (.int .u8 25), .lit (.int .u8 17), .lit (.int .u8 4), .lit (.int .u8 8), .lit (.int .u8 31), .lit (.int .u8 27), .lit (.int .u8 13), .lit (.int .u8 23), .lit (.int .u8 21), .lit (.int .u8 19), .lit (.int .u8 16), .lit (.int .u8 7), .lit (.int .u8 26), .lit (.int .u8 12), .lit (.int .u8 18), .lit (.int .u8 6), .lit (.int .u8 11), .lit (.int .u8 5), .lit (.int .u8 10), .lit (.int .u8 9)]
def laid_unicode_utf8_acceptRanges {H : Type} : DataW H := .agg [.agg [.lit (.int .u8 128), .lit (.int .u8 191)], .agg [.lit (.int .u8 160), .lit (.int .u8 191)], .agg [.lit (.int .u8 128), .lit (.int .u8 159)], .agg [.lit (.int .u8 144), .lit (.int .u8 191)], .agg [.lit (.int .u8 128), .lit (.int .u8 143)], .agg [.lit (.int .u8 0), .lit (.int .u8 0)], .agg [.lit (.int .u8 0), .lit (.int .u8 0)], .agg [.lit (.int .u8 0), .lit (.int .u8 0)], .agg [.lit (.int .u8 0), .lit (.int .u8 0)], .agg [.lit (.int .u8 0), .lit (.int .u8 0)], .agg [.lit (.int .u8 0), .lit (.int .u8 0)], .agg [.lit (.int .u8 0), .lit (.int .u8 0)], .agg [.lit (.int .u8 0), .lit (.int .u8 0)], .agg [.lit (.int .u8 0), .lit (.int .u8 0)], .agg [.lit (.int .u8 0), .lit (.int .u8 0)], .agg [.lit (.int .u8 0), .lit (.int .u8 0)]]
/-- One of Go's own tables, pinned by name: the form's constant. -/
def laid_unicode_utf8_first : DataW Unit := Go.Pinned.utf8First
def laid_e2e_record_ErrCorrupt {H : Type} : DataW H := .iface "*errors.errorString" (.ptr (.agg [.lit (.string [114, 101, 99, 111, 114, 100, 58, 32, 99, 111, 114, 114, 117, 112, 116, 32, 115, 112, 105, 108, 108, 32, 98, 121, 116, 101, 115])]))
def laid_e2e_vfsm_ErrNoSpace {H : Type} : DataW H := .iface "*errors.errorString" (.ptr (.agg [.lit (.string [118, 102, 115, 109, 58, 32, 110, 111, 32, 115, 112, 97, 99, 101])]))
def laid_e2e_record_ErrNoRejection {H : Type} : DataW H := .iface "*errors.errorString" (.ptr (.agg [.lit (.string [114, 101, 99, 111, 114, 100, 58, 32, 110, 111, 116, 32, 97, 32, 107, 105, 110, 100, 32, 111, 102, 32, 114, 101, 106, 101, 99, 116, 105, 111, 110])]))

/-- 'recordlaw.ClassifierIsTotalWithFixedPriority': WHATEVER THE INPUT: true; the input reads as it did. -/
def classifierIsTotalWithFixedPrioritySpec : ChangeSpec := { name := "classifierIsTotalWithFixedPriority", fn := fun _ => fun
  | [d] => { results := [.lit (.bool true)], args := [d] }
  | _ => none }
def classifierIsTotalWithFixedPriorityRow : OpenClaim := { program := "qxb6500894adoor", sum := "bd0c048dbfd8b34887d152a0b37ac8e5f7c4842d915b807fb4f3db332d20c116", func := "e2e/recordlaw.ClassifierIsTotalWithFixedPriority", spec := "classifierIsTotalWithFixedPriority", unfollowed := true, recurses := true, named := ["unicode/utf8.first", "unicode/utf8.acceptRanges", "math/bits.deBruijn32tab"], loops := true, apart := false, laid := [("math/bits.deBruijn32tab", laid_math_bits_deBruijn32tab), ("unicode/utf8.acceptRanges", laid_unicode_utf8_acceptRanges), ("unicode/utf8.first", laid_unicode_utf8_first)] }
def ClassifierIsTotalWithFixedPrioritySaid : Prop := classifierIsTotalWithFixedPriorityRow.holds Tryd.pinned (OpenSpec.ofChange classifierIsTotalWithFixedPrioritySpec)

/-- ITS FALSE NEIGHBOUR: 'it returns false'. Refute it at one input. -/
def classifierIsTotalWithFixedPriorityWrong : ChangeSpec := { name := "classifierIsTotalWithFixedPriority", fn := fun _ => fun
  | [d] => { results := [.lit (.bool false)], args := [d] }
  | _ => none }
def ClassifierIsTotalWithFixedPriorityWrongFalsely : Prop := classifierIsTotalWithFixedPriorityRow.holds Tryd.pinned (OpenSpec.ofChange classifierIsTotalWithFixedPriorityWrong)

/-- 'recordlaw.VerdictIgnoresOrder': WHATEVER THE INPUT: true; the input reads as it did. -/
def verdictIgnoresOrderSpec : ChangeSpec := { name := "verdictIgnoresOrder", fn := fun _ => fun
  | [d] => { results := [.lit (.bool true)], args := [d] }
  | _ => none }
def verdictIgnoresOrderRow : OpenClaim := { program := "qxb6500894adoor", sum := "bd0c048dbfd8b34887d152a0b37ac8e5f7c4842d915b807fb4f3db332d20c116", func := "e2e/recordlaw.VerdictIgnoresOrder", spec := "verdictIgnoresOrder", unfollowed := true, recurses := true, named := ["unicode/utf8.first", "unicode/utf8.acceptRanges", "math/bits.deBruijn32tab"], loops := true, apart := false, laid := [("math/bits.deBruijn32tab", laid_math_bits_deBruijn32tab), ("unicode/utf8.acceptRanges", laid_unicode_utf8_acceptRanges), ("unicode/utf8.first", laid_unicode_utf8_first)] }
def VerdictIgnoresOrderSaid : Prop := verdictIgnoresOrderRow.holds Tryd.pinned (OpenSpec.ofChange verdictIgnoresOrderSpec)

/-- ITS FALSE NEIGHBOUR: 'it returns false'. Refute it at one input. -/
def verdictIgnoresOrderWrong : ChangeSpec := { name := "verdictIgnoresOrder", fn := fun _ => fun
  | [d] => { results := [.lit (.bool false)], args := [d] }
  | _ => none }
def VerdictIgnoresOrderWrongFalsely : Prop := verdictIgnoresOrderRow.holds Tryd.pinned (OpenSpec.ofChange verdictIgnoresOrderWrong)

/-- 'recordlaw.SpillRoundTrips': WHATEVER THE INPUT: true; the input reads as it did. -/
def spillRoundTripsSpec : ChangeSpec := { name := "spillRoundTrips", fn := fun _ => fun
  | [d] => { results := [.lit (.bool true)], args := [d] }
  | _ => none }
def spillRoundTripsRow : OpenClaim := { program := "qxb6500894adoor", sum := "bd0c048dbfd8b34887d152a0b37ac8e5f7c4842d915b807fb4f3db332d20c116", func := "e2e/recordlaw.SpillRoundTrips", spec := "spillRoundTrips", unfollowed := true, recurses := true, named := ["unicode/utf8.first", "unicode/utf8.acceptRanges", "math/bits.deBruijn32tab", "e2e/record.ErrCorrupt"], loops := true, apart := false, laid := [("math/bits.deBruijn32tab", laid_math_bits_deBruijn32tab), ("unicode/utf8.acceptRanges", laid_unicode_utf8_acceptRanges), ("e2e/record.ErrCorrupt", laid_e2e_record_ErrCorrupt), ("unicode/utf8.first", laid_unicode_utf8_first)] }
def SpillRoundTripsSaid : Prop := spillRoundTripsRow.holds Tryd.pinned (OpenSpec.ofChange spillRoundTripsSpec)

/-- ITS FALSE NEIGHBOUR: 'it returns false'. Refute it at one input. -/
def spillRoundTripsWrong : ChangeSpec := { name := "spillRoundTrips", fn := fun _ => fun
  | [d] => { results := [.lit (.bool false)], args := [d] }
  | _ => none }
def SpillRoundTripsWrongFalsely : Prop := spillRoundTripsRow.holds Tryd.pinned (OpenSpec.ofChange spillRoundTripsWrong)

/-- 'recordlaw.DecodersAcceptOnlyEncodings': WHATEVER THE INPUT: true; the input reads as it did. -/
def decodersAcceptOnlyEncodingsSpec : ChangeSpec := { name := "decodersAcceptOnlyEncodings", fn := fun _ => fun
  | [d] => { results := [.lit (.bool true)], args := [d] }
  | _ => none }
def decodersAcceptOnlyEncodingsRow : OpenClaim := { program := "qxb6500894adoor", sum := "bd0c048dbfd8b34887d152a0b37ac8e5f7c4842d915b807fb4f3db332d20c116", func := "e2e/recordlaw.DecodersAcceptOnlyEncodings", spec := "decodersAcceptOnlyEncodings", unfollowed := true, recurses := true, named := ["e2e/record.ErrCorrupt", "unicode/utf8.first", "unicode/utf8.acceptRanges", "math/bits.deBruijn32tab"], loops := true, apart := false, laid := [("math/bits.deBruijn32tab", laid_math_bits_deBruijn32tab), ("unicode/utf8.acceptRanges", laid_unicode_utf8_acceptRanges), ("e2e/record.ErrCorrupt", laid_e2e_record_ErrCorrupt), ("unicode/utf8.first", laid_unicode_utf8_first)] }
def DecodersAcceptOnlyEncodingsSaid : Prop := decodersAcceptOnlyEncodingsRow.holds Tryd.pinned (OpenSpec.ofChange decodersAcceptOnlyEncodingsSpec)

/-- ITS FALSE NEIGHBOUR: 'it returns false'. Refute it at one input. -/
def decodersAcceptOnlyEncodingsWrong : ChangeSpec := { name := "decodersAcceptOnlyEncodings", fn := fun _ => fun
  | [d] => { results := [.lit (.bool false)], args := [d] }
  | _ => none }
def DecodersAcceptOnlyEncodingsWrongFalsely : Prop := decodersAcceptOnlyEncodingsRow.holds Tryd.pinned (OpenSpec.ofChange decodersAcceptOnlyEncodingsWrong)

/-- 'recordlaw.ValidRecordsFitAFrame': WHATEVER THE INPUT: true; the input reads as it did. -/
def validRecordsFitAFrameSpec : ChangeSpec := { name := "validRecordsFitAFrame", fn := fun _ => fun
  | [d] => { results := [.lit (.bool true)], args := [d] }
  | _ => none }
def validRecordsFitAFrameRow : OpenClaim := { program := "qxb6500894adoor", sum := "bd0c048dbfd8b34887d152a0b37ac8e5f7c4842d915b807fb4f3db332d20c116", func := "e2e/recordlaw.ValidRecordsFitAFrame", spec := "validRecordsFitAFrame", unfollowed := true, recurses := true, named := ["unicode/utf8.first", "unicode/utf8.acceptRanges", "math/bits.deBruijn32tab"], loops := true, apart := false, laid := [("math/bits.deBruijn32tab", laid_math_bits_deBruijn32tab), ("unicode/utf8.acceptRanges", laid_unicode_utf8_acceptRanges), ("unicode/utf8.first", laid_unicode_utf8_first)] }
def ValidRecordsFitAFrameSaid : Prop := validRecordsFitAFrameRow.holds Tryd.pinned (OpenSpec.ofChange validRecordsFitAFrameSpec)

/-- ITS FALSE NEIGHBOUR: 'it returns false'. Refute it at one input. -/
def validRecordsFitAFrameWrong : ChangeSpec := { name := "validRecordsFitAFrame", fn := fun _ => fun
  | [d] => { results := [.lit (.bool false)], args := [d] }
  | _ => none }
def ValidRecordsFitAFrameWrongFalsely : Prop := validRecordsFitAFrameRow.holds Tryd.pinned (OpenSpec.ofChange validRecordsFitAFrameWrong)

/-- 'recordlaw.RejectionRoundTrips': WHATEVER THE INPUT: true; the input reads as it did. -/
def rejectionRoundTripsSpec : ChangeSpec := { name := "rejectionRoundTrips", fn := fun _ => fun
  | [d] => { results := [.lit (.bool true)], args := [d] }
  | _ => none }
def rejectionRoundTripsRow : OpenClaim := { program := "qxb6500894adoor", sum := "bd0c048dbfd8b34887d152a0b37ac8e5f7c4842d915b807fb4f3db332d20c116", func := "e2e/recordlaw.RejectionRoundTrips", spec := "rejectionRoundTrips", recurses := true, named := ["e2e/record.ErrCorrupt"], loops := true, apart := false, laid := [("e2e/record.ErrCorrupt", laid_e2e_record_ErrCorrupt)] }
def RejectionRoundTripsSaid : Prop := rejectionRoundTripsRow.holds Tryd.pinned (OpenSpec.ofChange rejectionRoundTripsSpec)

/-- ITS FALSE NEIGHBOUR: 'it returns false'. Refute it at one input. -/
def rejectionRoundTripsWrong : ChangeSpec := { name := "rejectionRoundTrips", fn := fun _ => fun
  | [d] => { results := [.lit (.bool false)], args := [d] }
  | _ => none }
def RejectionRoundTripsWrongFalsely : Prop := rejectionRoundTripsRow.holds Tryd.pinned (OpenSpec.ofChange rejectionRoundTripsWrong)

/-- 'recordlaw.QuarantineIsExact': WHATEVER THE INPUT: true; the input reads as it did. -/
def quarantineIsExactSpec : ChangeSpec := { name := "quarantineIsExact", fn := fun _ => fun
  | [d] => { results := [.lit (.bool true)], args := [d] }
  | _ => none }
def quarantineIsExactRow : OpenClaim := { program := "qxb6500894adoor", sum := "bd0c048dbfd8b34887d152a0b37ac8e5f7c4842d915b807fb4f3db332d20c116", func := "e2e/recordlaw.QuarantineIsExact", spec := "quarantineIsExact", unfollowed := true, recurses := true, named := ["e2e/record.ErrNoRejection", "unicode/utf8.first", "unicode/utf8.acceptRanges", "math/bits.deBruijn32tab", "e2e/vfsm.ErrNoSpace", "e2e/record.ErrCorrupt"], loops := true, apart := false, laid := [("math/bits.deBruijn32tab", laid_math_bits_deBruijn32tab), ("unicode/utf8.acceptRanges", laid_unicode_utf8_acceptRanges), ("e2e/vfsm.ErrNoSpace", laid_e2e_vfsm_ErrNoSpace), ("e2e/record.ErrCorrupt", laid_e2e_record_ErrCorrupt), ("e2e/record.ErrNoRejection", laid_e2e_record_ErrNoRejection), ("unicode/utf8.first", laid_unicode_utf8_first)] }
def QuarantineIsExactSaid : Prop := quarantineIsExactRow.holds Tryd.pinned (OpenSpec.ofChange quarantineIsExactSpec)

/-- ITS FALSE NEIGHBOUR: 'it returns false'. Refute it at one input. -/
def quarantineIsExactWrong : ChangeSpec := { name := "quarantineIsExact", fn := fun _ => fun
  | [d] => { results := [.lit (.bool false)], args := [d] }
  | _ => none }
def QuarantineIsExactWrongFalsely : Prop := quarantineIsExactRow.holds Tryd.pinned (OpenSpec.ofChange quarantineIsExactWrong)

end Rows
end Go.Proofs.Qxb6500894aDoor
