import Derived.Test.Qxb6500893aDoorRows
import Derived.LaidLaws
import Derived.LaidHandle
import Derived.MakeChecks
import Derived.Lib.LaidU8
import Derived.FnData
namespace Go.Proofs.Qxb6500893aDoor
open Go

theorem laid_own : ownKnob Tryd.prog.godebug = none := by kernel_rfl
abbrev gName : String := Rows.refinesRow.named.headD ""
theorem laid_g : Tryd.prog.globalNamed gName = some 0 := by kernel_rfl
theorem laid_t : (Tryd.prog.globals[0]?).map (·.type) = some 83 := by kernel_rfl
abbrev laidL : List (String × DataW Unit) := [(gName, Rows.laid_e2e_poollaw_startRegion)]
/-- what the condition gives a walk: the variable's two cells -/
theorem cells_of_laid {W : World} (h : laidMetH Tryd.prog laidL W) : W.cell? ⟨0, 0, none⟩ = some (.int .u32 24) ∧ W.cell? ⟨0, 1, none⟩ = some (.int .u32 4040) := by
  rw [Go.MakeChecks.laidMetH_plain _ _ _ (by kernel_rfl)] at h
  obtain ⟨ps, hv, _⟩ := h
  obtain ⟨g, t, cs, fuel, p, q, h1, h2, h3, h4, _⟩ := hv
  obtain rfl := Option.some.inj (laid_g.symm.trans h1)
  obtain rfl := Option.some.inj (laid_t.symm.trans h2)
  have e : cs.toList = [24, 4040].map fun z => Value.int .u32 z := by
    refine Go.Lib.ints_of_struct (k := .u32) (zs := [24, 4040]) Tryd.underlying83 ?_ (by kernel_rfl) h4
    intro i f hf
    rcases i with _ | _ | i
    · obtain rfl := Option.some.inj hf
      exact ⟨by kernel_rfl, by kernel_rfl, by kernel_rfl⟩
    · obtain rfl := Option.some.inj hf
      exact ⟨by kernel_rfl, by kernel_rfl, by kernel_rfl⟩
    · simp at hf
  have c0 := World.var?_cell laid_g h3 0
  have c1 := World.var?_cell laid_g h3 1
  rw [← Array.getElem?_toList, e] at c0 c1
  exact ⟨c0, c1⟩

/-- a world that meets the condition -/
def laidWorldP (P : Program) (os : Os) : World :=
  let w0 := World.holding P os ⟨#[], #[], []⟩
  { w0 with heap := w0.heap.modify 0 fun
      | .cells _ t frozen => .cells #[.int .u32 24, .int .u32 4040] t frozen
      | o => o }
theorem laidWorld_met (os : Os) (args : Array Value) : laidMetH Tryd.prog laidL ((laidWorldP Tryd.prog os).forCall (fun _ _ => 0) ⟨#[], args, []⟩).memory := by
  rw [Go.MakeChecks.laidMetH_plain _ _ _ (by kernel_rfl)]
  exact laidMet_of_run' 8 (by kernel_rfl) (by kernel_rfl)
end Go.Proofs.Qxb6500893aDoor
