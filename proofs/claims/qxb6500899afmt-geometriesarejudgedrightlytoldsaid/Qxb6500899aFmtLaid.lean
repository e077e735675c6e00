import Derived.Test.Qxb6500899aFmtRows
import Derived.LaidLaws
import Derived.LaidHandle
import Derived.Stop.Joined
import Derived.ProofKit
namespace Go.Proofs.Qxb6500899aFmt
open Go

theorem laid_own : ownKnob Tryf.prog.godebug = none := by kernel_rfl
theorem laid_et : Tryf.prog.globalNamed "errors.errorType" = some 0 := by kernel_rfl
theorem laid_oneRow : ((List.range 154).filter fun t => Tryf.prog.rowNamed t [101, 114, 114, 111, 114]) = [34] := by kernel_rfl
theorem laid_size : Tryf.prog.types.size = 154 := by kernel_rfl
abbrev laidL : List (String × DataW Unit) := [("errors.errorType", Rows.laid_errors_errorType)]
/-- what the condition gives a walk: the variable's one cell -/
theorem handle_of_laid {W : World} (h : laidMetH Tryf.prog laidL W) : W.cell? ⟨0, 0, none⟩ = some (.iface 101 (.agg #[.pointer (some ⟨1, 34, none⟩)])) := by
  have h' : laidMet Tryf.prog [] W ∧ handlesMet Tryf.prog laidL W := h
  obtain ⟨name, u, ty, e1, e2, e3, e4, e5⟩ := h'.2 _ (List.mem_singleton.2 rfl)
  have en : name = [101, 114, 114, 111, 114] := (Option.some.inj e1).symm
  subst en
  have e6 : some 101 = some u := by rw [← e2]; kernel_rfl
  obtain rfl := Option.some.inj e6
  have hm : ty ∈ (List.range 154).filter fun t => Tryf.prog.rowNamed t [101, 114, 114, 111, 114] := List.mem_filter.2 ⟨List.mem_range.2 (by rw [← laid_size]; exact e3), e4⟩
  rw [laid_oneRow] at hm
  obtain rfl := List.mem_singleton.1 hm
  have hh : typeHandle Tryf.prog 34 = .pointer (some ⟨1, 34, none⟩) := by kernel_rfl
  rw [hh] at e5
  simpa using World.var?_cell laid_et e5 0
/-- a world that meets the condition -/
def laidWorldP (P : Program) (os : Os) : World :=
  let w0 := World.holding P os ⟨#[], #[], []⟩
  { w0 with heap := w0.heap.modify 0 fun
      | .cells _ t frozen => .cells #[.iface 101 (.agg #[.pointer (some ⟨1, 34, none⟩)])] t frozen
      | o => o }
theorem laidWorld_met (os : Os) (args : Array Value) : laidMetH Tryf.prog laidL ((laidWorldP Tryf.prog os).forCall (fun _ _ => 0) ⟨#[], args, []⟩).memory :=
  laidMetH_of_parts (laidMet_nil _ _) (by kernel_rfl)
theorem witness_row (os : Os) {H : Type} (enc : TypeId × Value → H) :
    (OpenSpec.ofChange Rows.geometriesAreJudgedRightlySpec).preRow enc Tryf.prog Tryf.f3 [] false laidL ((laidWorldP Tryf.prog os).forCall (fun _ _ => 0) ⟨#[], #[.slice none 0 0], []⟩).memory #[.slice none 0 0] := by
  have hw : (DataW.whole enc Tryf.prog ((laidWorldP Tryf.prog os).forCall (fun _ _ => 0) ⟨#[], #[.slice none 0 0], []⟩).memory Tryf.f3.params.toList (OpenSpec.ofChange Rows.geometriesAreJudgedRightlySpec).vars false #[Value.slice none 0 0].toList 8).isSome = true := by kernel_rfl
  obtain ⟨x, hx⟩ := Option.isSome_iff_exists.1 hw
  exact OpenSpec.preRow_of_cond 8 hx rfl (fun k hk => by cases hk) (by kernel_rfl) (laidWorld_met os _)
end Go.Proofs.Qxb6500899aFmt
