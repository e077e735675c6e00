import Derived.Test.Qxb6500896aGreatDoorLaid
import Derived.Test.Qxb6500896aGreatDoorT16
import Derived.Lib.LaidU8
import Derived.ChangeArms
namespace Go.Proofs.Qxb6500896aGreatDoor
open Go Go.Sh Go.RowKit
set_option linter.unusedVariables false

theorem laid_g1 : Tryz.prog.globalNamed nmC = some 1 := by kernel_rfl
theorem laid_g2 : Tryz.prog.globalNamed nmS = some 2 := by kernel_rfl
theorem laid_t1 : (Tryz.prog.globals[1]?).map (·.type) = some 166 := by kernel_rfl
theorem laid_t2 : (Tryz.prog.globals[2]?).map (·.type) = some 203 := by kernel_rfl
theorem laid_u1 : Tryz.prog.underlying 166 = some (.array 23 9) := by kernel_rfl
theorem laid_u2 : Tryz.prog.underlying 203 = some (.array 10 9) := by kernel_rfl
theorem laid_cs : Tryz.prog.cellsOf 9 = 1 := by kernel_rfl
theorem laid_us : Tryz.prog.underlying 9 = some .string := by kernel_rfl
/-- the texts of a datum -/
def txts : DataW Unit → List (List UInt8)
  | .agg ds => ds.map fun | .lit (.string l) => l | _ => []
  | _ => []
theorem laid_cell {W : World} {nm : String} {g t n : Nat} {ds : List (DataW Unit)} (hg : Tryz.prog.globalNamed nm = some g) (ht : (Tryz.prog.globals[g]?).map (·.type) = some t) (hu : Tryz.prog.underlying t = some (.array n 9))
    (hb : ∀ d ∈ ds, ∀ l, d = .lit (.string l) → 1 ≤ l.length ∧ l.length ≤ 100)
    {cs : Array Value} {fuel : Nat} {p : List MemPlace} {base : Nat} {sp : Nat → Bool} {held : Bool} {enc : TypeId × Value → Unit} (hv : W.var? Tryz.prog nm = some cs) (hd : DataW.trod enc Tryz.prog W base sp held fuel t cs.toList = some (.agg ds, p)) (i : Nat) (hi : i < n) :
    ∃ s : ByteArray, Cells W g i [.string s] ∧ 1 ≤ s.size ∧ s.size ≤ 100 := by
  obtain ⟨fuel', d, q, h1, h2⟩ := Go.Lib.array_elem hu hd i hi
  rw [laid_cs, Nat.mul_one] at h2
  obtain ⟨s, h3, h4, h5⟩ := DataW.trod_string laid_us h2
  have h6 : d = .lit (.string s.data.toList) := congrArg Prod.fst h4
  have h7 := hb d (List.mem_of_getElem? h1) _ h6
  have hs : s.data.toList.length = s.size := by simp
  refine ⟨s, ?_, by omega, by omega⟩
  have h8 : cs[i]? = some (.string s) := by
    have := congrArg (·[0]?) h3
    simp only [List.getElem?_take, List.getElem?_drop] at this
    simpa using this
  have h9 := World.var?_cell hg hv i
  intro j hj
  have hj0 : j = 0 := by
    have : j < 1 := hj
    omega
  subst hj0
  rw [Nat.add_zero, h9, h8]
  rfl
def okTxt : DataW Unit → Bool
  | .agg ds => ds.all fun | .lit (.string l) => decide (1 ≤ l.length ∧ l.length ≤ 100) | _ => false
  | _ => false
theorem okTxt_b {ds : List (DataW Unit)} (h : okTxt (.agg ds) = true) : ∀ d ∈ ds, ∀ l, d = .lit (.string l) → 1 ≤ l.length ∧ l.length ≤ 100 := fun d hd l e => by
  have := List.all_eq_true.1 h d hd
  subst e
  exact of_decide_eq_true this
theorem agg_of {d : DataW Unit} (h : okTxt d = true) : ∃ ds, d = .agg ds := by
  cases d with
  | agg ds => exact ⟨ds, rfl⟩
  | _ => cases h
theorem okC : okTxt Rows.laid_e2e_engine_codeNames = true := by kernel_rfl
theorem okS : okTxt Rows.laid_e2e_engine_statusNames = true := by kernel_rfl
/-- what the condition gives a walk: the two tables of names -/
theorem gl_of_laid {W : World} (h : laidMetH Tryz.prog laidCS W) : Gl W := by
  rw [Go.MakeChecks.laidMetH_plain _ _ _ (by kernel_rfl)] at h
  obtain ⟨ps, hv, _⟩ := h
  obtain ⟨g1, t1, cs1, fuel1, p1, q1, h1, h2, h3, h4, hv2, h5⟩ := hv
  obtain ⟨g2, t2, cs2, fuel2, p2, q2, k1, k2, k3, k4, _⟩ := hv2
  obtain rfl := Option.some.inj (laid_g1.symm.trans h1)
  obtain rfl := Option.some.inj (laid_t1.symm.trans h2)
  obtain rfl := Option.some.inj (laid_g2.symm.trans k1)
  obtain rfl := Option.some.inj (laid_t2.symm.trans k2)
  obtain ⟨d1, e1⟩ := agg_of okC
  obtain ⟨d2, e2⟩ := agg_of okS
  have o1 := okC
  have o2 := okS
  rw [e1] at h4 o1
  rw [e2] at k4 o2
  exact ⟨fun i hi => laid_cell laid_g1 laid_t1 laid_u1 (okTxt_b o1) h3 h4 i hi, fun i hi => laid_cell laid_g2 laid_t2 laid_u2 (okTxt_b o2) k3 k4 i hi⟩
end Go.Proofs.Qxb6500896aGreatDoor
