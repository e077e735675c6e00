import Derived.Test.Qxb6500894aDoorRows
import Derived.LaidLaws
import Derived.LaidHandle
import Derived.MakeChecks
import Derived.Stop.LaidErr
namespace Go.Proofs.Qxb6500894aDoor
open Go

theorem laid_own : ownKnob Tryd.prog.godebug = none := by kernel_rfl
abbrev nmE : String := Rows.rejectionRoundTripsRow.named.headD ""
theorem laid_g : Tryd.prog.globalNamed nmE = some 0 := by kernel_rfl
theorem laid_t : (Tryd.prog.globals[0]?).map (·.type) = some 60 := by kernel_rfl
abbrev nmS : String := String.ofList ['*', 'e', 'r', 'r', 'o', 'r', 's', '.', 'e', 'r', 'r', 'o', 'r', 'S', 't', 'r', 'i', 'n', 'g']
theorem laid_row (u : TypeId) (h : Tryd.prog.typeName? 3 u = some nmS) : u = 174 :=
  typeName_ptr_named (nm := "errors.errorString") (by kernel_rfl) (by kernel_rfl) (by decide) u (h.trans (by kernel_rfl))
theorem laid_u60 : ∃ ms, Tryd.prog.underlying 60 = some (.interface ms) := ⟨_, Tryd.underlying60⟩
theorem laid_c194 : Tryd.prog.cellsOf 194 = 1 := by kernel_rfl
theorem laid_c9 : Tryd.prog.cellsOf 9 = 1 := by kernel_rfl
abbrev laidL : List (String × DataW Unit) := [(nmE, Rows.laid_e2e_record_ErrCorrupt)]
/-- what the condition gives a walk: the variable's cell -/
theorem cell_of_laid {W : World} (h : laidMetH Tryd.prog laidL W) : ∃ a0, W.cell? ⟨0, 0, none⟩ = some (.iface 174 (.pointer (some a0))) := by
  rw [Go.MakeChecks.laidMetH_plain _ _ _ (by kernel_rfl)] at h
  obtain ⟨a0, s0, hv0, hc0, hs0, hz0⟩ := laid_sentinel h laid_g laid_t Tryd.underlying60 laid_row Tryd.underlying174 Tryd.underlying194 rfl rfl Tryd.underlying9 laid_c194 laid_c9
  exact ⟨a0, by simpa using World.var?_cell laid_g hv0 0⟩

def lowP (P : Program) : Nat := (World.holding P default ⟨#[], #[], []⟩).heap.size
def corS : ByteArray := ⟨#[114, 101, 99, 111, 114, 100, 58, 32, 99, 111, 114, 114, 117, 112, 116, 32, 115, 112, 105, 108, 108, 32, 98, 121, 116, 101, 115]⟩
/-- a world that meets the condition -/
def laidWorldP (P : Program) (os : Os) : World :=
  let w0 := World.holding P os ⟨#[.cells #[.string corS] 194], #[], []⟩
  { w0 with heap := w0.heap.modify 0 fun
      | .cells _ t frozen => .cells #[.iface 174 (.pointer (some ⟨lowP P, 0, none⟩))] t frozen
      | o => o }
theorem laidWorld_met (os : Os) (args : Array Value) : laidMetH Tryd.prog laidL ((laidWorldP Tryd.prog os).forCall (fun _ _ => 0) ⟨#[], args, []⟩).memory := by
  rw [Go.MakeChecks.laidMetH_plain _ _ _ (by kernel_rfl)]
  exact laidMet_of_run (ps := [.cell 0 0, .cell (lowP Tryd.prog) 0]) 8 (by kernel_rfl) (by kernel_rfl) (by kernel_rfl)
end Go.Proofs.Qxb6500894aDoor
