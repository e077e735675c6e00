import Derived.Test.Qxb6500897aP26
import Derived.Test.Qxb6500897aShFlat
namespace Go.Proofs.Qxb6500897a
open Go.Sh Go.RowKit
set_option linter.unusedVariables false
set_option linter.unusedSimpArgs false

def i64in (n : Int) : Prop := -9223372036854775808 ≤ n ∧ n ≤ 9223372036854775807
structure Op.Wf (o : Op) : Prop where
  attr : i64in o.attr
  slot : i64in o.slot
  to : i64in o.to
  cls : i64in o.cls
  n : i64in o.n

/-- the script that came in -/
def Scr (W : World) (v : Value) (ops : List Op) : Prop :=
  (∀ o ∈ ops, o.Wf) ∧ ((v = .slice none 0 0 ∧ ops = []) ∨ ∃ a cap, v = .slice (some a) ops.length cap ∧ ∀ i (h : i < ops.length), W.cells? 0 (a.add (i * 6)) 6 = some ops[i].cells)

theorem wf64 {n : Int} (h : (Lit.int .i64 n).wf = true) : i64in n := by
  have e1 : IntKind.i64.min = -9223372036854775808 := by decide
  have e2 : IntKind.i64.max = 9223372036854775807 := by decide
  simp only [Lit.wf, e1, e2, decide_eq_true_eq, Bool.and_eq_true] at h
  exact h

set_option maxRecDepth 100000 in
theorem flat34 : flatKs Try.prog 34 [.i64, .i64, .i64, .i64, .i64, .i64] = true := by kernel_rfl
set_option maxRecDepth 100000 in
theorem cells34 : Try.prog.cellsOf 34 = 6 := by kernel_rfl

theorem scr_of_tv {W : World} {f : Nat} {v : Value} (h : TV Try.prog W f 22 v.cells.toList) (hv : ∃ a n c, v = .slice a n c) : ∃ ops, Scr W v ops := by
  obtain ⟨a0, n0, c0, rfl⟩ := hv
  rcases tv_slice Try.underlying22 h with e | ⟨a, len, cap, g, e, _, hl, hm, hel⟩
  · have : (Value.slice a0 n0 c0) = .slice none 0 0 := by simpa [Value.cells] using e
    exact ⟨[], by simp, .inl ⟨this, rfl⟩⟩
  · have e' : (Value.slice a0 n0 c0) = .slice (some a) len cap := by simpa [Value.cells] using e
    have hex : ∀ i, i < len → ∃ o : Op, W.cells? 0 (a.add (i * 6)) 6 = some o.cells ∧ o.Wf := by
      intro i hi
      obtain ⟨ds, h1, h2⟩ := hel i hi
      rw [cells34] at h1
      obtain ⟨ns, hn, hd, hw⟩ := tv_flat flat34 h2
      match ns, hn with
      | [x0, x1, x2, x3, x4, x5], _ =>
        refine ⟨⟨x0, x1, x2, x3, x4, x5⟩, by rw [h1, hd]; rfl, ?_⟩
        obtain ⟨w0, w1, w2, w3, w4, w5, _⟩ := hw
        exact ⟨wf64 w1, wf64 w2, wf64 w3, wf64 w4, wf64 w5⟩
    obtain ⟨ops, hlen, hops⟩ := choose_list len _ hex
    refine ⟨ops, ?_, .inr ⟨a, cap, by rw [e', hlen], fun i hi => (hops i hi).1⟩⟩
    intro o ho
    obtain ⟨i, hi, rfl⟩ := List.getElem_of_mem ho
    exact (hops i hi).2

theorem Scr.ln {W w : World} {v : Value} {ops : List Op} {K : Value → World → Prop} (h : Scr W v ops) (hk : K (I ops.length) w) : lnS v K w := by
  rcases h.2 with ⟨rfl, rfl⟩ | ⟨a, cap, rfl, _⟩
  · exact hk
  · exact hk

/-- reading a step of the script -/
theorem Scr.read {W w : World} {v : Value} {ops : List Op} {K : Value → World → Prop} (h : Scr W v ops) (hb : Below W.heap.size W w) {i : Nat} (hi : i < ops.length) (hk : K (.agg ops[i].cells.toArray) w) :
    ixs 6 v (I i) (fun p w => ldn 6 p K w) w := by
  rcases h.2 with ⟨rfl, rfl⟩ | ⟨a, cap, rfl, hc⟩
  · simp at hi
  · refine ⟨⟨by omega, by omega⟩, ?_⟩
    have ei : ((i : Int)).toNat = i := by omega
    rw [ei]
    exact ldn_in hb (hc i hi) hk

theorem small_ok {W w : World} {v : Value} {ops : List Op} {K : Value → World → Prop} (h : Scr W v ops) (hK : K (.bool (decide (ops.length ≤ 65536))) w) : cl Try.prog 13 #[v] K w := by
  apply c13
  unfold s13_p1
  refine h.ln ?_
  simp only [e_fd, e_nck, e_pkt, e_pkf, e_gdtt, e_gdtf, e_gdft, e_gdff, e_ift, e_iff, e_not, e_ln, e_lnT, e_cp, e_cvi, e_ex20, e_ex21, e_ex30, e_ex31, e_ex32, e_add, e_sub, e_mul, e_quo, e_rem, e_and, e_or, e_xor, e_shl, e_shr, e_eql, e_neq, e_lss, e_leq, e_gtr, e_geq, e_beq, e_bne, e_peq1, e_peq2, e_pne1, e_pne2, e_zeq1, e_zeq2, e_zne1, e_zne2, e_feq1, e_fne1, e_feq2, e_fne2, e_seq, e_sne, e_ta1, e_ta2, Nat.zero_add, Nat.add_zero, Bool.not_true, Bool.not_false]
  by_cases hl : 65536 < (ops.length : Int)
  · simp only [e_fd, e_nck, e_pkt, e_pkf, e_gdtt, e_gdtf, e_gdft, e_gdff, e_ift, e_iff, e_not, e_ln, e_lnT, e_cp, e_cvi, e_ex20, e_ex21, e_ex30, e_ex31, e_ex32, e_add, e_sub, e_mul, e_quo, e_rem, e_and, e_or, e_xor, e_shl, e_shr, e_eql, e_neq, e_lss, e_leq, e_gtr, e_geq, e_beq, e_bne, e_peq1, e_peq2, e_pne1, e_pne2, e_zeq1, e_zeq2, e_zne1, e_zne2, e_feq1, e_fne1, e_feq2, e_fne2, e_seq, e_sne, e_ta1, e_ta2, Nat.zero_add, Nat.add_zero, Bool.not_true, Bool.not_false, hl, decide_true]
    have : decide (ops.length ≤ 65536) = false := by simp; omega
    rw [this] at hK; exact hK
  · simp only [e_fd, e_nck, e_pkt, e_pkf, e_gdtt, e_gdtf, e_gdft, e_gdff, e_ift, e_iff, e_not, e_ln, e_lnT, e_cp, e_cvi, e_ex20, e_ex21, e_ex30, e_ex31, e_ex32, e_add, e_sub, e_mul, e_quo, e_rem, e_and, e_or, e_xor, e_shl, e_shr, e_eql, e_neq, e_lss, e_leq, e_gtr, e_geq, e_beq, e_bne, e_peq1, e_peq2, e_pne1, e_pne2, e_zeq1, e_zeq2, e_zne1, e_zne2, e_feq1, e_fne1, e_feq2, e_fne2, e_seq, e_sne, e_ta1, e_ta2, Nat.zero_add, Nat.add_zero, Bool.not_true, Bool.not_false, hl, decide_false]
    have : decide (ops.length ≤ 65536) = true := by simp; omega
    rw [this] at hK; exact hK
end Go.Proofs.Qxb6500897a
