import Derived.Test.Qxb6500898aU9
import Derived.Test.Qxb6500898aG2
import Derived.Test.Qxb6500898aShTZ
import Derived.Test.Qxb6500898aShLeaf
import Derived.Test.Qxb6500898aShVs
import Derived.Test.Qxb6500898aShFlat
namespace Go.Proofs.Qxb6500898a
open Go.Sh Go.RowKit
set_option linter.unusedVariables false
set_option linter.unusedSimpArgs false

/-! ### the script -/
set_option maxRecDepth 100000 in
theorem leaf34 : leafTs Try.prog 4 34 = some [31, 3, 4, 3, 32, 24] := by kernel_rfl
set_option maxRecDepth 100000 in
theorem cells34 : Try.prog.cellsOf 34 = 6 := by kernel_rfl
set_option maxRecDepth 100000 in
theorem cells5 : Try.prog.cellsOf 5 = 1 := by kernel_rfl
set_option maxRecDepth 100000 in
theorem bytes34 : Try.prog.bytesOf 34 = 64 := by kernel_rfl
set_option maxRecDepth 100000 in
theorem bytes5 : Try.prog.bytesOf 5 = 1 := by kernel_rfl
theorem reach_eq : reachBytes = 140737488351232 := rfl

structure Op where
  kind : Int
  width : Int
  little : Bool
  off : Int
  val : Int
  data : List Int
structure Op.Wf (o : Op) : Prop where
  off : -9223372036854775808 ≤ o.off ∧ o.off ≤ 9223372036854775807
  val : 0 ≤ o.val ∧ o.val ≤ 18446744073709551615
def opc (dv : Value) (o : Op) : List Value := [I o.kind, I o.width, .bool o.little, I o.off, .int .u64 o.val, dv]
/-- the cells of a step as it is given -/
def RawOp (W : World) (cs : List Value) (o : Op) : Prop := ∃ dv, cs = opc dv o ∧ Bs W dv o.data ∧ o.Wf ∧ o.data.length ≤ 140737488351232
def Scr (W : World) (v : Value) (xs : List Op) : Prop :=
  (v = .slice none 0 0 ∧ xs = []) ∨ ∃ (a : Addr) (cap : Nat), v = .slice (some a) xs.length cap ∧ xs.length ≤ cap ∧ xs.length ≤ 140737488351232 ∧ ∀ j (h : j < xs.length), ∃ b o cs, a.add (j * 6) = ⟨b, o, none⟩ ∧ Cells W b o cs ∧ RawOp W cs xs[j]

section
variable {W w : World} {v : Value} {xs : List Op} {K : Value → World → Prop}
theorem Scr.ln (h : Scr W v xs) (hK : K (I xs.length) w) : lnS v K w := by
  rcases h with ⟨rfl, rfl⟩ | ⟨a, cap, rfl, _⟩
  · exact hK
  · exact hK
theorem Scr.len (h : Scr W v xs) : xs.length ≤ 140737488351232 := by
  rcases h with ⟨rfl, rfl⟩ | ⟨a, cap, rfl, _, h, _⟩
  · simp
  · exact h
theorem Scr.ix (h : Scr W v xs) {j : Nat} (hj : j < xs.length) (hK : ∀ b o cs, Cells W b o cs → RawOp W cs xs[j] → K (.pointer (some ⟨b, o, none⟩)) w) : ixs 6 v (I j) K w := by
  rcases h with ⟨rfl, rfl⟩ | ⟨a, cap, rfl, _, _, h⟩
  · simp at hj
  · refine ⟨⟨by omega, by omega⟩, ?_⟩
    have ej : ((j : Int)).toNat = j := by omega
    rw [ej]
    obtain ⟨b, o, cs, e, hc, hr⟩ := h j hj
    rw [e]
    exact hK b o cs hc hr
end
section
variable {W : World} {f g : Nat} {cs : List Value} {u : Value}
theorem int_of {t : TypeId} {q : IntKind} (hu : Try.prog.underlying t = some (.int q)) (h : TZ Try.prog W reachBytes g t [u]) : ∃ n : Int, u = .int q n ∧ q.min ≤ n ∧ n ≤ q.max := by
  obtain ⟨n, e, hz⟩ := tz_int hu h
  simp only [List.cons.injEq, and_true] at e
  refine ⟨n, e, ?_⟩
  simp only [Lit.wf, decide_eq_true_eq, Bool.and_eq_true] at hz
  exact hz
theorem bs_of (h : TZ Try.prog W reachBytes g 24 [u]) : ∃ xs : List Int, Bs W u xs ∧ xs.length ≤ 140737488351232 := by
  rcases tz_slice Try.underlying24 h with e | ⟨a, len, cap, gg, e, hgg, hlc, hcm, hbb, hel⟩
  · simp only [List.cons.injEq, and_true] at e
    exact ⟨[], ⟨by simp, .inl ⟨e, rfl⟩⟩, by simp⟩
  · simp only [List.cons.injEq, and_true] at e
    rw [cells5] at hel
    rw [reach_eq, bytes5, Nat.mul_one] at hbb
    obtain ⟨xs, hl, hxs⟩ := choose_list len (fun i (x : Int) => (0 ≤ x ∧ x ≤ 255) ∧ ∃ b o, a.add (i * 1) = ⟨b, o, none⟩ ∧ Cells W b o [U8 x]) (fun i hi => by
      obtain ⟨ds, h1, h2⟩ := hel i hi
      obtain ⟨b, o, e1, e2, e3⟩ := cells_in h1 (by omega)
      obtain ⟨n, e4, hz⟩ := tz_int Try.underlying5 h2
      have m1 : IntKind.u8.min = 0 := by decide
      have m2 : IntKind.u8.max = 255 := by decide
      simp only [Lit.wf, m1, m2, decide_eq_true_eq, Bool.and_eq_true] at hz
      exact ⟨n, hz, b, o, e1, by rw [e4] at e3; exact e3⟩)
    refine ⟨xs, ⟨fun x hx => ?_, ?_⟩, by omega⟩
    · obtain ⟨j, hj, rfl⟩ := List.getElem_of_mem hx
      exact (hxs j hj).1
    · by_cases h0 : len = 0
      · have : xs = [] := List.eq_nil_of_length_eq_zero (by omega)
        subst this
        exact .inr (.inl ⟨a, cap, by rw [e, h0], rfl⟩)
      · obtain ⟨_, b, o, e1, _⟩ := hxs 0 (by omega)
        have ea : a = ⟨b, o, none⟩ := by
          obtain ⟨ab, ao, asp⟩ := a
          simp [Addr.add] at e1 ⊢
          exact e1
        subst ea
        refine .inr (.inr ⟨b, o, cap, by rw [e, hl], by omega, by omega, fun j hj => ?_⟩)
        rw [List.length_map] at hj
        obtain ⟨_, b', o', e1, e2⟩ := hxs j hj
        rw [add_mk, Nat.mul_one] at e1
        cases e1
        have := e2 0 (by simp)
        rw [Nat.add_zero] at this
        rw [this, List.getElem?_map, List.getElem?_eq_getElem hj]
        rfl
theorem bool_of (h : TZ Try.prog W reachBytes g 4 [u]) : ∃ b : Bool, u = .bool b := by
  obtain ⟨n, e⟩ := tz_bool Try.underlying4 h
  simp only [List.cons.injEq, and_true] at e
  exact ⟨n, e⟩
theorem op_of (h : TZ Try.prog W reachBytes g 34 cs) : ∃ op, RawOp W cs op := by
  obtain ⟨hl, hv⟩ := leafTs_ok 4 34 _ leaf34 g cs h
  have hlen : cs.length = 6 := hl
  obtain ⟨_, v0, e0, _, _, t0⟩ := hv 0 31 rfl
  obtain ⟨_, v1, e1, _, _, t1⟩ := hv 1 3 rfl
  obtain ⟨_, v2, e2, _, _, t2⟩ := hv 2 4 rfl
  obtain ⟨_, v3, e3, _, _, t3⟩ := hv 3 3 rfl
  obtain ⟨_, v4, e4, _, _, t4⟩ := hv 4 32 rfl
  obtain ⟨_, v5, e5, _, _, t5⟩ := hv 5 24 rfl
  obtain ⟨n0, q0, _⟩ := int_of Try.underlying31 t0
  obtain ⟨n1, q1, _⟩ := int_of Try.underlying3 t1
  obtain ⟨n2, q2⟩ := bool_of t2
  obtain ⟨n3, q3, z3⟩ := int_of Try.underlying3 t3
  obtain ⟨n4, q4, z4⟩ := int_of Try.underlying32 t4
  obtain ⟨ds, hds, hdl⟩ := bs_of t5
  have m1 : IntKind.i64.min = -9223372036854775808 := by decide
  have m2 : IntKind.i64.max = 9223372036854775807 := by decide
  have m3 : IntKind.u64.min = 0 := by decide
  have m4 : IntKind.u64.max = 18446744073709551615 := by decide
  rw [m1, m2] at z3
  rw [m3, m4] at z4
  subst q0 q1 q2 q3 q4
  refine ⟨⟨n0, n1, n2, n3, n4, ds⟩, v5, ?_, hds, ⟨z3, z4⟩, hdl⟩
  match cs, hlen with
  | [c0, c1, c2, c3, c4, c5], _ =>
    simp only [List.getElem?_cons_zero, List.getElem?_cons_succ, Option.some.injEq] at e0 e1 e2 e3 e4 e5
    subst e0 e1 e2 e3 e4 e5
    rfl
theorem scr_of {v : Value} (h : TZ Try.prog W reachBytes f 22 v.cells.toList) (hv : ∃ a n c, v = .slice a n c) : ∃ xs, Scr W v xs := by
  obtain ⟨a0, n0, c0, rfl⟩ := hv
  rcases tz_slice Try.underlying22 h with e | ⟨a, len, cap, gg, e, hgg, hlc, hcm, hby, hel⟩
  · have : (Value.slice a0 n0 c0) = .slice none 0 0 := by simpa [Value.cells] using e
    exact ⟨[], .inl ⟨this, rfl⟩⟩
  · have e' : (Value.slice a0 n0 c0) = .slice (some a) len cap := by simpa [Value.cells] using e
    rw [cells34] at hel
    rw [bytes34, reach_eq] at hby
    obtain ⟨xs, hl, hxs⟩ := choose_list len (fun i (x : Op) => ∃ b o cs, a.add (i * 6) = ⟨b, o, none⟩ ∧ Cells W b o cs ∧ RawOp W cs x) (fun i hi => by
      obtain ⟨ds, h1, h2⟩ := hel i hi
      obtain ⟨b, o, e1, e2, e3⟩ := cells_in h1 (by omega)
      obtain ⟨x, hx⟩ := op_of h2
      exact ⟨x, b, o, ds, e1, e3, hx⟩)
    exact ⟨xs, .inr ⟨a, cap, by rw [e', hl], by omega, by omega, fun j hj => hxs j hj⟩⟩
end
section
variable {W w : World} {v : Value} {xs : List Op} {K : Value → World → Prop}
theorem small_ok (hs : Scr W v xs) (hb : Below W.heap.size W w) (hK : ∀ r, (r = true → xs.length ≤ 65536 ∧ ∀ x ∈ xs, x.data.length ≤ 65536) → K (.bool r) w) : cl Try.prog 10 #[v] K w := by
  have hlen := hs.len
  have hkW : Kp (fun _ => False) W w := kp_of_below hb
  apply c10
  unfold s10_p4
  refine hs.ln ?_
  try simp only [e_fd, e_nck, e_pkt, e_pkf, e_gdtt, e_gdtf, e_gdft, e_gdff, e_ift, e_iff, e_not, e_ln, e_lnT, e_cp, e_cvi, e_ex20, e_ex21, e_ex30, e_ex31, e_ex32, e_add, e_sub, e_mul, e_quo, e_rem, e_and, e_or, e_xor, e_shl, e_shr, e_eql, e_neq, e_lss, e_leq, e_gtr, e_geq, e_beq, e_bne, e_peq1, e_peq2, e_pne1, e_pne2, e_zeq1, e_zeq2, e_zne1, e_zne2, e_feq1, e_fne1, e_feq2, e_fne2, e_seq, e_sne, e_ta1, e_ta2, Nat.zero_add, Nat.add_zero, Bool.not_true, Bool.not_false]
  by_cases h1 : (65536 : Int) < (xs.length : Int)
  · simp only [h1, decide_true, e_fd, e_nck, e_pkt, e_pkf, e_gdtt, e_gdtf, e_gdft, e_gdff, e_ift, e_iff, e_not, e_ln, e_lnT, e_cp, e_cvi, e_ex20, e_ex21, e_ex30, e_ex31, e_ex32, e_add, e_sub, e_mul, e_quo, e_rem, e_and, e_or, e_xor, e_shl, e_shr, e_eql, e_neq, e_lss, e_leq, e_gtr, e_geq, e_beq, e_bne, e_peq1, e_peq2, e_pne1, e_pne2, e_zeq1, e_zeq2, e_zne1, e_zne2, e_feq1, e_fne1, e_feq2, e_fne2, e_seq, e_sne, e_ta1, e_ta2, Nat.zero_add, Nat.add_zero, Bool.not_true, Bool.not_false]
    exact hK false (fun q => by cases q)
  · simp only [h1, decide_false, e_fd, e_nck, e_pkt, e_pkf, e_gdtt, e_gdtf, e_gdft, e_gdff, e_ift, e_iff, e_not, e_ln, e_lnT, e_cp, e_cvi, e_ex20, e_ex21, e_ex30, e_ex31, e_ex32, e_add, e_sub, e_mul, e_quo, e_rem, e_and, e_or, e_xor, e_shl, e_shr, e_eql, e_neq, e_lss, e_leq, e_gtr, e_geq, e_beq, e_bne, e_peq1, e_peq2, e_pne1, e_pne2, e_zeq1, e_zeq2, e_zne1, e_zne2, e_feq1, e_fne1, e_feq2, e_fne2, e_seq, e_sne, e_ta1, e_ta2, Nat.zero_add, Nat.add_zero, Bool.not_true, Bool.not_false]
    refine ⟨fun m l w' => w' = w ∧ ∃ (n : Int) (j : Nat), j ≤ xs.length ∧ m = xs.length - j ∧ l = [v, I n, I j] ∧ 0 ≤ n ∧ n ≤ 65536 ∧ ∀ i (h : i < xs.length), i < j → xs[i].data.length ≤ 65536,
      xs.length, ⟨rfl, xs.length, 0, by omega, by omega, rfl, by omega, by omega, fun i h h0 => by omega⟩, ?_⟩
    rintro m l w' ⟨rfl, n, j, hj, rfl, rfl, n0, n1, hall⟩
    rw [s10_p3_Fe]
    unfold s10_p2
    refine hs.ln ?_
    try simp only [e_fd, e_nck, e_pkt, e_pkf, e_gdtt, e_gdtf, e_gdft, e_gdff, e_ift, e_iff, e_not, e_ln, e_lnT, e_cp, e_cvi, e_ex20, e_ex21, e_ex30, e_ex31, e_ex32, e_add, e_sub, e_mul, e_quo, e_rem, e_and, e_or, e_xor, e_shl, e_shr, e_eql, e_neq, e_lss, e_leq, e_gtr, e_geq, e_beq, e_bne, e_peq1, e_peq2, e_pne1, e_pne2, e_zeq1, e_zeq2, e_zne1, e_zne2, e_feq1, e_fne1, e_feq2, e_fne2, e_seq, e_sne, e_ta1, e_ta2, Nat.zero_add, Nat.add_zero, Bool.not_true, Bool.not_false]
    by_cases hlt : j < xs.length
    · have hlt' : (j : Int) < (xs.length : Int) := by omega
      simp only [hlt', decide_true, e_fd, e_nck, e_pkt, e_pkf, e_gdtt, e_gdtf, e_gdft, e_gdff, e_ift, e_iff, e_not, e_ln, e_lnT, e_cp, e_cvi, e_ex20, e_ex21, e_ex30, e_ex31, e_ex32, e_add, e_sub, e_mul, e_quo, e_rem, e_and, e_or, e_xor, e_shl, e_shr, e_eql, e_neq, e_lss, e_leq, e_gtr, e_geq, e_beq, e_bne, e_peq1, e_peq2, e_pne1, e_pne2, e_zeq1, e_zeq2, e_zne1, e_zne2, e_feq1, e_fne1, e_feq2, e_fne2, e_seq, e_sne, e_ta1, e_ta2, Nat.zero_add, Nat.add_zero, Bool.not_true, Bool.not_false]
      refine hs.ix hlt fun b o cs hc hr => ?_
      obtain ⟨dv, rfl, hd, _, hdl⟩ := hr
      have hc' := hc.kp' hkW
      try simp only [e_fd, e_nck, e_pkt, e_pkf, e_gdtt, e_gdtf, e_gdft, e_gdff, e_ift, e_iff, e_not, e_ln, e_lnT, e_cp, e_cvi, e_ex20, e_ex21, e_ex30, e_ex31, e_ex32, e_add, e_sub, e_mul, e_quo, e_rem, e_and, e_or, e_xor, e_shl, e_shr, e_eql, e_neq, e_lss, e_leq, e_gtr, e_geq, e_beq, e_bne, e_peq1, e_peq2, e_pne1, e_pne2, e_zeq1, e_zeq2, e_zne1, e_zne2, e_feq1, e_fne1, e_feq2, e_fne2, e_seq, e_sne, e_ta1, e_ta2, Nat.zero_add, Nat.add_zero, Bool.not_true, Bool.not_false]
      refine hc'.ld1 (j := 5) rfl ?_
      refine (hd.kp' hkW).ln ?_
      try simp only [e_fd, e_nck, e_pkt, e_pkf, e_gdtt, e_gdtf, e_gdft, e_gdff, e_ift, e_iff, e_not, e_ln, e_lnT, e_cp, e_cvi, e_ex20, e_ex21, e_ex30, e_ex31, e_ex32, e_add, e_sub, e_mul, e_quo, e_rem, e_and, e_or, e_xor, e_shl, e_shr, e_eql, e_neq, e_lss, e_leq, e_gtr, e_geq, e_beq, e_bne, e_peq1, e_peq2, e_pne1, e_pne2, e_zeq1, e_zeq2, e_zne1, e_zne2, e_feq1, e_fne1, e_feq2, e_fne2, e_seq, e_sne, e_ta1, e_ta2, Nat.zero_add, Nat.add_zero, Bool.not_true, Bool.not_false]
      rw [wrap64_id (by omega) (by omega)]
      by_cases h2 : (65536 : Int) < n + (xs[j].data.length : Int)
      · simp only [h2, decide_true, e_fd, e_nck, e_pkt, e_pkf, e_gdtt, e_gdtf, e_gdft, e_gdff, e_ift, e_iff, e_not, e_ln, e_lnT, e_cp, e_cvi, e_ex20, e_ex21, e_ex30, e_ex31, e_ex32, e_add, e_sub, e_mul, e_quo, e_rem, e_and, e_or, e_xor, e_shl, e_shr, e_eql, e_neq, e_lss, e_leq, e_gtr, e_geq, e_beq, e_bne, e_peq1, e_peq2, e_pne1, e_pne2, e_zeq1, e_zeq2, e_zne1, e_zne2, e_feq1, e_fne1, e_feq2, e_fne2, e_seq, e_sne, e_ta1, e_ta2, Nat.zero_add, Nat.add_zero, Bool.not_true, Bool.not_false]
        exact hK false (fun q => by cases q)
      · simp only [h2, decide_false, e_fd, e_nck, e_pkt, e_pkf, e_gdtt, e_gdtf, e_gdft, e_gdff, e_ift, e_iff, e_not, e_ln, e_lnT, e_cp, e_cvi, e_ex20, e_ex21, e_ex30, e_ex31, e_ex32, e_add, e_sub, e_mul, e_quo, e_rem, e_and, e_or, e_xor, e_shl, e_shr, e_eql, e_neq, e_lss, e_leq, e_gtr, e_geq, e_beq, e_bne, e_peq1, e_peq2, e_pne1, e_pne2, e_zeq1, e_zeq2, e_zne1, e_zne2, e_feq1, e_fne1, e_feq2, e_fne2, e_seq, e_sne, e_ta1, e_ta2, Nat.zero_add, Nat.add_zero, Bool.not_true, Bool.not_false]
        rw [wrap64_id (by omega) (by omega)]
        refine ⟨xs.length - (j + 1), by omega, by trivial, _, j + 1, by omega, rfl, rfl, by omega, by omega, fun i hi hij => ?_⟩
        by_cases e : i = j
        · subst e; omega
        · exact hall i hi (by omega)
    · have hlt' : ¬ (j : Int) < (xs.length : Int) := by omega
      simp only [hlt', decide_false, e_fd, e_nck, e_pkt, e_pkf, e_gdtt, e_gdtf, e_gdft, e_gdff, e_ift, e_iff, e_not, e_ln, e_lnT, e_cp, e_cvi, e_ex20, e_ex21, e_ex30, e_ex31, e_ex32, e_add, e_sub, e_mul, e_quo, e_rem, e_and, e_or, e_xor, e_shl, e_shr, e_eql, e_neq, e_lss, e_leq, e_gtr, e_geq, e_beq, e_bne, e_peq1, e_peq2, e_pne1, e_pne2, e_zeq1, e_zeq2, e_zne1, e_zne2, e_feq1, e_fne1, e_feq2, e_fne2, e_seq, e_sne, e_ta1, e_ta2, Nat.zero_add, Nat.add_zero, Bool.not_true, Bool.not_false]
      unfold s10_p1
      refine hK true (fun _ => ⟨by omega, fun x hx => ?_⟩)
      obtain ⟨i, hi, rfl⟩ := List.getElem_of_mem hx
      exact hall i hi (by omega)
/-- the loop's variable -/
theorem Scr.take (hs : Scr W v xs) (hb : Below W.heap.size W w) {j : Nat} (hj : j < xs.length) {k : Value → World → Prop}
    (hK : ∀ w' b dv, w.heap.size = b → Row w' b 34 (opc dv xs[j]) → Kp (fun _ => False) w w' → Bs W dv xs[j].data → xs[j].Wf → scal dv = true → k (.pointer (some ⟨b, 0, none⟩)) w') :
    ixs 6 v (I j) (fun t25 w => ldn 6 t25 (fun t26 w => nw 34 #[(.int .i64 0), (.int .i64 0), (.bool false), (.int .i64 0), (.int .u64 0), (.slice none 0 0)] (fun t7 w => stn 6 t7 t26 (fun w => k t7 w) w) w) w) w := by
  have hkW : Kp (fun _ => False) W w := kp_of_below hb
  refine hs.ix hj fun b o cs hc hr => ?_
  obtain ⟨dv, rfl, hd, hwf, hdl⟩ := hr
  refine (hc.kp' hkW).ldn rfl ?_
  refine nw_r fun w1 r1 hk1 hz1 => ?_
  have sdv : scal dv = true := by
    rcases hd.at_ with ⟨e, _⟩ | ⟨a, cap, e, _⟩ | ⟨b, o, cap, e, _⟩ <;> (rw [e]; rfl)
  refine stn_r r1 rfl (Nat.le_refl 6) (show (opc dv xs[j]).all scal = true by simp only [opc, List.all_cons, sdv]; rfl) fun w2 r2 hk2 hz2 => ?_
  have hk02 : Kp (fun _ => False) w w2 := hk1.then hk2 (fun k hk (q : k = _) => by omega)
  exact hK w2 _ dv rfl r2 hk02 hd hwf sdv
end
end Go.Proofs.Qxb6500898a
