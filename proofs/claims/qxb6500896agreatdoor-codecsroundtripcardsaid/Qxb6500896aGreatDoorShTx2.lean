/-
  an octet of a string
-/
import Derived.Test.Qxb6500896aGreatDoorShIv
namespace Go.Sh
open Go.RowKit
set_option linter.unusedVariables false
set_option linter.unusedSimpArgs false
theorem ivS_r {P : Program} {t : TypeId} {k : IntKind} {i : Int} {s : ByteArray} {b : UInt8} {K : Value → World → Prop} {w : World} (hu : P.underlying t = some .string) (h0 : 0 ≤ i) (hb : s[i.toNat]? = some b) (hK : K (.int .u8 b.toNat) w) : iv P t (.string s) (.int k i) K w := by
  unfold iv
  refine rs_ok (v := .int .u8 b.toNat) (w' := w) ?_ hK
  unfold Instr.index
  simp only [asIntOf, Sem.run_bind, Sem.run_pure, run_underlying hu, Result.andThen]
  rw [if_pos h0, hb]
  rfl
end Go.Sh
