import Derived.Test.Qxb6500896aGreatDoorLaid
import Derived.Test.Qxb6500896aGreatDoorE1
import Derived.Maps.Keyed
import Derived.ChangeArms
import Derived.WideKeyElems2
namespace Go.Proofs.Qxb6500896aGreatDoor
open Go Go.Sh Go.RowKit
set_option linter.unusedVariables false

abbrev nmM : String := Rows.conservationRow.named.headD ""
abbrev laidM : List (String × DataW Unit) := [(nmM, Rows.laid_e2e_api_Moves)]
theorem laid_g0 : Tryz.prog.globalNamed nmM = some 0 := by kernel_rfl
theorem laid_t0 : (Tryz.prog.globals[0]?).map (·.type) = some 114 := by kernel_rfl
theorem laid_um : Tryz.prog.underlying 114 = some (.map 40 113) := by kernel_rfl
theorem laid_usl : Tryz.prog.underlying 113 = some (.slice 40) := by kernel_rfl
theorem laid_ust : Tryz.prog.underlying 40 = some (.int .i64) := by kernel_rfl
theorem laid_cst : Tryz.prog.cellsOf 40 = 1 := by kernel_rfl
set_option maxRecDepth 100000 in
theorem laid_zsl (w : World) : (zeroValue 113).run Tryz.prog w = .ok (.slice none 0 0) w := by kernel_rfl
theorem one_cell {v x : Value} (hf : v.formed Tryz.prog 113 = true) (h : v.cells.toList = [x]) : v = x := by
  cases v with
  | agg cs =>
    unfold Value.formed at hf
    rw [laid_usl] at hf
    cases hf
  | tuple cs => cases hf
  | _ => simpa [Value.cells] using h
/-- a laid slice of statuses -/
theorem laid_row {W : World} {v : Value} {enc : TypeId × Value → Unit} {sp : Nat → Bool} {held : Bool} {fuel : Nat} {xs : List Int} {p : List MemPlace} (hl : xs.length ≤ 1000) (hf : v.formed Tryz.prog 113 = true)
    (h : DataW.trod enc Tryz.prog W 0 sp held fuel 113 v.cells.toList = some (.slice (xs.map fun n => .lit (.int .i64 n)) [], p)) : Ar iC 1 (fun b => b < W.heap.size) W v xs := by
  rcases DataW.trod_slice laid_usl h with ⟨_, hx⟩ | ⟨a, len, cap, elems, rest, n, _, hcs, hx, _, hlc, _, hlen, hel, _⟩
  · simp at hx
  · have hv := one_cell hf hcs
    subst hv
    simp only [Prod.mk.injEq, DataW.slice.injEq] at hx
    rw [laid_cst] at hel
    have hxl : elems.length = xs.length := by
      have := congrArg List.length hx.1.1
      simpa using this.symm
    have key : ∀ i (hi : i < xs.length), ∃ b o, a.add (i * 1) = ⟨b, o, none⟩ ∧ Cells W b o (iC xs[i]) := fun i hi => by
      have hi2 : i < elems.length := by omega
      have h1 := hel i (by omega)
      rw [List.getElem?_eq_getElem hi2] at h1
      obtain ⟨cs', h2, h3⟩ := Option.bind_eq_some_iff.1 h1
      obtain ⟨m, e1, e2, _⟩ := DataW.trod_int laid_ust h3
      have e3 : elems[i].1 = .lit (.int .i64 xs[i]) := by
        have : (elems.map (·.1))[i]? = (xs.map fun n => (DataW.lit (Lit.int .i64 n) : DataW Unit))[i]? := by rw [hx.1.1]
        rw [List.getElem?_map, List.getElem?_map, List.getElem?_eq_getElem hi2, List.getElem?_eq_getElem hi] at this
        exact Option.some.inj this
      rw [e2] at e3
      have e4 : m = xs[i] := by simpa using e3
      obtain ⟨b, o, e5, e6, e7⟩ := cells_in h2 (by decide)
      exact ⟨b, o, e5, by rw [e1, e4] at e7; exact e7⟩
    refine ⟨by omega, ?_⟩
    by_cases h0 : xs.length = 0
    · have : xs = [] := List.eq_nil_of_length_eq_zero h0
      subst this
      exact .inl ⟨some a, cap, by rw [show len = 0 by rw [← hlen, hxl]; rfl], rfl⟩
    · obtain ⟨b, o, e1, ec⟩ := key 0 (by omega)
      have ea : a = ⟨b, o, none⟩ := by
        obtain ⟨ab, ao, asp⟩ := a
        simp [Addr.add] at e1 ⊢
        exact e1
      subst ea
      refine .inr ⟨b, o, cap, by rw [← hxl, hlen], by omega, Cells.lt ec (Nat.zero_lt_one), by omega, fun j hj => ?_⟩
      obtain ⟨b', o', e1, e2⟩ := key j hj
      rw [add_mk] at e1
      cases e1
      exact e2
/-- what is laid under a key -/
theorem laid_key {a : Int} (ha : 1 ≤ a ∧ a ≤ 9) : (Rows.laid_e2e_api_Moves (H := Unit)).atKey (.int .i64 a) .nil = (if a = 1 ∨ a = 2 ∨ a = 7 ∨ a = 8 then .slice ((moves a).map fun n => .lit (.int .i64 n)) [] else .nil) := by
  have : a = 1 ∨ a = 2 ∨ a = 3 ∨ a = 4 ∨ a = 5 ∨ a = 6 ∨ a = 7 ∨ a = 8 ∨ a = 9 := by omega
  rcases this with rfl | rfl | rfl | rfl | rfl | rfl | rfl | rfl | rfl <;> rfl
/-- what the condition gives a walk -/
theorem gm_of_laid {W : World} (h : laidMetH Tryz.prog laidM W) : Gm W := by
  rw [Go.MakeChecks.laidMetH_plain _ _ _ (by kernel_rfl)] at h
  obtain ⟨ps, hv, _⟩ := h
  obtain ⟨g1, t1, cs1, fuel1, p1, q1, h1, h2, h3, h4, hv2, h5⟩ := hv
  obtain rfl := Option.some.inj (laid_g0.symm.trans h1)
  obtain rfl := Option.some.inj (laid_t0.symm.trans h2)
  rcases Go.WideElems.open_map laid_um h4 with ⟨_, hx⟩ | ⟨bm, es, clock, m, rfl, hcs, hb, _, F, hx⟩
  · simp [Rows.laid_e2e_api_Moves] at hx
  have hlt : bm < W.heap.size := (Array.getElem?_eq_some_iff.1 hb).1
  refine ⟨bm, ?_, hlt, fun w a hw ha => ?_⟩
  · have h9 := World.var?_cell h1 h3 0
    have : cs1[0]? = some (.map (some bm)) := by
      have := congrArg (·[0]?) hcs
      simpa using this
    rw [this] at h9
    intro j hj
    have hj0 : j = 0 := by
      have : j < 1 := hj
      omega
    subst hj0
    rw [Nat.add_zero]
    exact h9
  · have hwf : (Lit.int .i64 a).wf = true := by
      have e1 : IntKind.i64.min = -9223372036854775808 := by decide
      have e2 : IntKind.i64.max = 9223372036854775807 := by decide
      simp only [Lit.wf, e1, e2, decide_eq_true_eq, Bool.and_eq_true]
      omega
    have hkey := Go.Maps.keyOf_int_mk (P := Tryz.prog) laid_ust hwf
    have hx1 := congrArg Prod.fst hx
    simp only at hx1
    rcases Go.Maps.fit_look (w := w) false (Go.Maps.int_keyed laid_ust) laid_um (laid_zsl w) (hw.trans hb) F hkey with ⟨hrun, _, hat⟩ | ⟨e0, y, _, _, hrun, hRv, hat, _⟩
    · refine ⟨.slice none 0 0, hrun, ?_⟩
      have hat := hat .nil
      rw [← hx1, laid_key ha] at hat
      have hm : moves a = [] := by
        by_cases q : a = 1 ∨ a = 2 ∨ a = 7 ∨ a = 8
        · rw [if_pos q] at hat; cases hat
        · unfold moves
          rw [if_neg (by omega), if_neg (by omega), if_neg (by omega), if_neg (by omega)]
      rw [hm]
      exact Ar.nil
    · refine ⟨e0.val, hrun, ?_⟩
      have hat := hat .nil
      rw [← hx1, laid_key ha] at hat
      unfold Go.WideElems.elemAt at hRv
      split at hRv
      · rename_i hf
        by_cases q : a = 1 ∨ a = 2 ∨ a = 7 ∨ a = 8
        · rw [if_pos q] at hat
          obtain ⟨y1, y2⟩ := y
          simp only at hat
          subst hat
          exact laid_row (by have := moves_len a; omega) hf hRv
        · rw [if_neg q] at hat
          have hm : moves a = [] := by
            unfold moves
            rw [if_neg (by omega), if_neg (by omega), if_neg (by omega), if_neg (by omega)]
          rw [hm]
          obtain ⟨y1, y2⟩ := y
          simp only at hat
          subst hat
          rcases DataW.trod_slice laid_usl hRv with ⟨hcs, _⟩ | ⟨a, len, cap, elems, rest, n, _, hcs, hx, _⟩
          · rw [one_cell hf hcs]; exact Ar.nil
          · simp at hx
      · cases hRv
end Go.Proofs.Qxb6500896aGreatDoor
