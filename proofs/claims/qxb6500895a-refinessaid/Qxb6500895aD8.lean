import Derived.Test.Qxb6500895aD7
import Derived.Test.Qxb6500895aShFlat
namespace Go.Proofs.Qxb6500895a
open Go.Sh Go.RowKit
set_option linter.unusedVariables false
set_option linter.unusedSimpArgs false

/-! ### the script -/
set_option maxRecDepth 100000 in
theorem leaf34 : leafTs Try.prog 4 34 = some [28, 3, 29, 3, 3, 30, 3, 3] := by kernel_rfl
set_option maxRecDepth 100000 in
theorem cells34 : Try.prog.cellsOf 34 = 8 := by kernel_rfl
set_option maxRecDepth 100000 in
theorem cells5 : Try.prog.cellsOf 5 = 1 := by kernel_rfl
set_option maxRecDepth 100000 in
theorem cells3 : Try.prog.cellsOf 3 = 1 := by kernel_rfl
set_option maxRecDepth 100000 in
theorem bytes34 : Try.prog.bytesOf 34 = 96 := by kernel_rfl
set_option maxRecDepth 100000 in
theorem bytes5 : Try.prog.bytesOf 5 = 1 := by kernel_rfl
set_option maxRecDepth 100000 in
theorem bytes3 : Try.prog.bytesOf 3 = 8 := by kernel_rfl
theorem reach_eq : reachBytes = 140737488351232 := rfl

/-- the cells of a step as it is given -/
def RawOp (W : World) (cs : List Value) (op : Op) : Prop :=
  ∃ dv kv, cs = [I op.kind, I op.sec, dv, I op.len, I op.after, kv, I op.torn, I op.at_] ∧ Vs U8 W dv op.data ∧ By op.data ∧ Vs I W kv op.keep ∧ op.after ≤ 9223372036854775807 ∧ op.data.length ≤ 140737488351232 ∧ op.keep.length ≤ 140737488351232
def Scr (W : World) (v : Value) (xs : List Op) : Prop :=
  (v = .slice none 0 0 ∧ xs = []) ∨ ∃ (a : Addr) (cap : Nat), v = .slice (some a) xs.length cap ∧ xs.length ≤ cap ∧ xs.length ≤ 140737488351232 ∧ ∀ j (h : j < xs.length), ∃ b o cs, a.add (j * 8) = ⟨b, o, none⟩ ∧ Cells W b o cs ∧ RawOp W cs xs[j]

section
variable {W w : World} {v : Value} {xs : List Op} {K : Value → World → Prop}
theorem Scr.ln (h : Scr W v xs) (hK : K (I xs.length) w) : lnS v K w := by
  rcases h with ⟨rfl, rfl⟩ | ⟨a, cap, rfl, _⟩
  · exact hK
  · exact hK
theorem Scr.len (h : Scr W v xs) : xs.length ≤ 140737488351232 := by
  rcases h with ⟨rfl, rfl⟩ | ⟨a, cap, rfl, _, h, _⟩
  · simp
  · exact h
theorem Scr.ix (h : Scr W v xs) {j : Nat} (hj : j < xs.length) (hK : ∀ b o cs, Cells W b o cs → RawOp W cs xs[j] → K (.pointer (some ⟨b, o, none⟩)) w) : ixs 8 v (I j) K w := by
  rcases h with ⟨rfl, rfl⟩ | ⟨a, cap, rfl, _, _, h⟩
  · simp at hj
  · refine ⟨⟨by omega, by omega⟩, ?_⟩
    have ej : ((j : Int)).toNat = j := by omega
    rw [ej]
    obtain ⟨b, o, cs, e, hc, hr⟩ := h j hj
    rw [e]
    exact hK b o cs hc hr
theorem RawOp.mk {cs : List Value} {op : Op} (h : RawOp W cs op) (hl : op.keep.length ≤ 65536) : OpV W W.heap.size (.agg cs.toArray) op := by
  obtain ⟨dv, kv, rfl, h1, h2, h3, h4, _, _⟩ := h
  exact ⟨dv, kv, rfl, h1, h2, h3, hl, h4, fun b o c h0 e => h1.lt h0 e, fun b o c h0 e => h3.lt h0 e⟩
end

section
variable {W : World} {f g : Nat} {cs : List Value} {u : Value}
theorem int3_of (h : TZ Try.prog W reachBytes g 3 [u]) : ∃ n : Int, u = I n ∧ n ≤ 9223372036854775807 := by
  obtain ⟨n, e, hz⟩ := tz_int Try.underlying3 h
  simp only [List.cons.injEq, and_true] at e
  refine ⟨n, e, ?_⟩
  have e1 : IntKind.i64.min = -9223372036854775808 := by decide
  have e2 : IntKind.i64.max = 9223372036854775807 := by decide
  simp only [Lit.wf, e1, e2, decide_eq_true_eq, Bool.and_eq_true] at hz
  exact hz.2
theorem vs_of {α : Type} {F : α → Value} {t e : TypeId} (hu : Try.prog.underlying t = some (.slice e)) (hc : Try.prog.cellsOf e = 1) (hby : 1 ≤ Try.prog.bytesOf e)
    {Q : α → Prop} (hF : ∀ g ds, TZ Try.prog W reachBytes g e ds → ∃ x, ds = [F x] ∧ Q x) (h : TZ Try.prog W reachBytes g t [u]) :
    ∃ xs : List α, Vs F W u xs ∧ xs.length ≤ 140737488351232 ∧ ∀ x ∈ xs, Q x := by
  rcases tz_slice hu h with e | ⟨a, len, cap, gg, e, hgg, hlc, hcm, hbb, hel⟩
  · simp only [List.cons.injEq, and_true] at e
    exact ⟨[], .inl ⟨e, rfl⟩, by simp, by simp⟩
  · simp only [List.cons.injEq, and_true] at e
    rw [hc] at hel
    rw [reach_eq] at hbb
    have hlen : len ≤ 140737488351232 := Nat.le_trans (Nat.le_mul_of_pos_right len hby) hbb
    obtain ⟨xs, hl, hxs⟩ := choose_list len (fun i (x : α) => Q x ∧ ∃ b o, a.add (i * 1) = ⟨b, o, none⟩ ∧ Cells W b o [F x]) (fun i hi => by
      obtain ⟨ds, h1, h2⟩ := hel i hi
      obtain ⟨b, o, e1, e2, e3⟩ := cells_in h1 (by omega)
      obtain ⟨x, e4, hq⟩ := hF _ _ h2
      exact ⟨x, hq, b, o, e1, by rw [e4] at e3; exact e3⟩)
    refine ⟨xs, ?_, by omega, fun x hx => ?_⟩
    · by_cases h0 : len = 0
      · have : xs = [] := List.eq_nil_of_length_eq_zero (by omega)
        subst this
        exact .inr (.inl ⟨a, cap, by rw [e, h0], rfl⟩)
      · obtain ⟨_, b, o, e1, _⟩ := hxs 0 (by omega)
        have ea : a = ⟨b, o, none⟩ := by
          obtain ⟨ab, ao, asp⟩ := a
          simp [Addr.add] at e1 ⊢
          exact e1
        subst ea
        refine .inr (.inr ⟨b, o, cap, by rw [e, hl], by omega, by omega, fun j hj => ?_⟩)
        rw [List.length_map] at hj
        obtain ⟨_, b', o', e1, e2⟩ := hxs j hj
        rw [add_mk, Nat.mul_one] at e1
        cases e1
        have := e2 0 (by simp)
        rw [Nat.add_zero] at this
        rw [this, List.getElem?_map, List.getElem?_eq_getElem hj]
        rfl
    · obtain ⟨j, hj, rfl⟩ := List.getElem_of_mem hx
      exact (hxs j hj).1

theorem op_of (h : TZ Try.prog W reachBytes g 34 cs) : ∃ op, RawOp W cs op := by
  obtain ⟨hl, hv⟩ := leafTs_ok 4 34 _ leaf34 g cs h
  have hlen : cs.length = 8 := hl
  obtain ⟨_, v0, e0, _, _, t0⟩ := hv 0 28 rfl
  obtain ⟨_, v1, e1, _, _, t1⟩ := hv 1 3 rfl
  obtain ⟨_, v2, e2, _, _, t2⟩ := hv 2 29 rfl
  obtain ⟨_, v3, e3, _, _, t3⟩ := hv 3 3 rfl
  obtain ⟨_, v4, e4, _, _, t4⟩ := hv 4 3 rfl
  obtain ⟨_, v5, e5, _, _, t5⟩ := hv 5 30 rfl
  obtain ⟨_, v6, e6, _, _, t6⟩ := hv 6 3 rfl
  obtain ⟨_, v7, e7, _, _, t7⟩ := hv 7 3 rfl
  obtain ⟨k, q0, _⟩ := tz_int Try.underlying28 t0
  simp only [List.cons.injEq, and_true] at q0
  obtain ⟨n1, q1, _⟩ := int3_of t1
  obtain ⟨n3, q3, _⟩ := int3_of t3
  obtain ⟨n4, q4, z4⟩ := int3_of t4
  obtain ⟨n6, q6, _⟩ := int3_of t6
  obtain ⟨n7, q7, _⟩ := int3_of t7
  obtain ⟨ds, hds, hdl, hdb⟩ := vs_of (F := U8) (Q := fun x => 0 ≤ x ∧ x ≤ 255) Try.underlying29 cells5 (by rw [bytes5]; exact Nat.le_refl _) (fun g ds h => by
    obtain ⟨n, e, hz⟩ := tz_int Try.underlying5 h
    refine ⟨n, e, ?_⟩
    have e1 : IntKind.u8.min = 0 := by decide
    have e2 : IntKind.u8.max = 255 := by decide
    simp only [Lit.wf, e1, e2, decide_eq_true_eq, Bool.and_eq_true] at hz
    exact hz) t2
  obtain ⟨ks, hks, hkl, _⟩ := vs_of (F := I) (Q := fun _ => True) Try.underlying30 cells3 (by rw [bytes3]; omega) (fun g ds h => by
    obtain ⟨n, e, hz⟩ := tz_int Try.underlying3 h
    exact ⟨n, e, trivial⟩) t5
  subst q0 q1 q3 q4 q6 q7
  refine ⟨⟨k, n1, ds, n3, n4, ks, n6, n7⟩, v2, v5, ?_, hds, hdb, hks, z4, hdl, hkl⟩
  match cs, hlen with
  | [c0, c1, c2, c3, c4, c5, c6, c7], _ =>
    simp only [List.getElem?_cons_zero, List.getElem?_cons_succ, Option.some.injEq] at e0 e1 e2 e3 e4 e5 e6 e7
    subst e0 e1 e2 e3 e4 e5 e6 e7
    rfl

theorem scr_of {v : Value} (h : TZ Try.prog W reachBytes f 22 v.cells.toList) (hv : ∃ a n c, v = .slice a n c) : ∃ xs, Scr W v xs := by
  obtain ⟨a0, n0, c0, rfl⟩ := hv
  rcases tz_slice Try.underlying22 h with e | ⟨a, len, cap, gg, e, hgg, hlc, hcm, hby, hel⟩
  · have : (Value.slice a0 n0 c0) = .slice none 0 0 := by simpa [Value.cells] using e
    exact ⟨[], .inl ⟨this, rfl⟩⟩
  · have e' : (Value.slice a0 n0 c0) = .slice (some a) len cap := by simpa [Value.cells] using e
    rw [cells34] at hel
    rw [bytes34, reach_eq] at hby
    obtain ⟨xs, hl, hxs⟩ := choose_list len (fun i (x : Op) => ∃ b o cs, a.add (i * 8) = ⟨b, o, none⟩ ∧ Cells W b o cs ∧ RawOp W cs x) (fun i hi => by
      obtain ⟨ds, h1, h2⟩ := hel i hi
      obtain ⟨b, o, e1, e2, e3⟩ := cells_in h1 (by omega)
      obtain ⟨x, hx⟩ := op_of h2
      exact ⟨x, b, o, ds, e1, e3, hx⟩)
    exact ⟨xs, .inr ⟨a, cap, by rw [e', hl], by omega, by omega, fun j hj => hxs j hj⟩⟩
end
end Go.Proofs.Qxb6500895a
