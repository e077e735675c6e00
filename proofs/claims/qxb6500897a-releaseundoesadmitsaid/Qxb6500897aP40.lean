import Derived.Test.Qxb6500897aP39
import Derived.Test.Qxb6500897aShMap
namespace Go.Proofs.Qxb6500897a
open Go.Sh Go.RowKit
set_option linter.unusedVariables false
set_option linter.unusedSimpArgs false

theorem wrap64_hi {n : Int} (h0 : 9223372036854775808 ≤ n) (h : n ≤ 27670116110564327423) : IntKind.i64.wrap n = n - 18446744073709551616 := by
  have e : (2 ^ IntKind.i64.bits : Int) = 18446744073709551616 := by decide
  have e' : (2 ^ (IntKind.i64.bits - 1) : Int) = 9223372036854775808 := by decide
  unfold IntKind.wrap
  rw [e, e']
  simp only [IntKind.signed, Bool.true_and]
  split <;> rename_i h1 <;> simp only [decide_eq_true_eq] at h1 <;> omega
theorem wrap64_lo {n : Int} (h0 : -27670116110564327424 ≤ n) (h : n < -9223372036854775808) : IntKind.i64.wrap n = n + 18446744073709551616 := by
  have e : (2 ^ IntKind.i64.bits : Int) = 18446744073709551616 := by decide
  have e' : (2 ^ (IntKind.i64.bits - 1) : Int) = 9223372036854775808 := by decide
  unfold IntKind.wrap
  rw [e, e']
  simp only [IntKind.signed, Bool.true_and]
  split <;> rename_i h1 <;> simp only [decide_eq_true_eq] at h1 <;> omega

/-! ### at -/
abbrev seen (now : Int) (a : Nat) (s : Int) : Prop := fst1 now a ≤ s ∧ s < fst1 now a + rlen a
def atC (now : Int) (L : List Ent) (a : Nat) (s : Int) : Ctr := if seen now a s then ctrOf L a s else ⟨0, 0, 0, 0⟩

theorem vw_first {now : Int} {L : List Ent} {a : Nat} (ha : a < (vwOf now L).first.length) : (vwOf now L).first[a] = fst1 now a := by
  simp [vwOf]

theorem at_ok {w : World} {now : Int} {L : List Ent} {fob : Option Nat} {fv : Value} {sob : Option Nat} {sv : Value} {its : List It} {lo a : Nat} {s : Int} {K : Value → World → Prop} (hV : VP w fob fv sob sv (vwOf now L).first its lo)
    (hcs : (vwOf now L).slots = its.map (·.cs)) (n0 : 0 ≤ now) (n1 : now ≤ 90) (ha : a < 4) (hs : i64in s)
    (hK : ∀ w', Kp (fun _ => False) w w' → K (.tuple #[.agg (atC now L a s).cells.toArray, .bool (decide (seen now a s))]) w') :
    cl Try.prog 26 #[.agg #[.bool true, I now, fv, sv], I a, I s] K w := by
  obtain ⟨hil, hrows⟩ := its_row hcs
  have hai : a < its.length := by omega
  have hdw : (pa a).dwell = dw a := rfl
  have hb := pa_bd a
  have hrl : (rlen a : Int) = 6 + 2 * (dw a - 1) := by unfold rlen; omega
  have hf1 : fst1 now a = now - (dw a - 1) := rfl
  have haf : a < (vwOf now L).first.length := by simp [vwOf]; omega
  obtain ⟨s0, s1⟩ := hs
  apply c26
  unfold s26_p1
  refine nw_r fun w1 r1 hb1 hz1 => ?_
  replace r1 : Row w1 w.heap.size 43 [.bool true, I now, fv, sv] := r1
  refine nw_r fun w2 r2 hb2 hz2 => ?_
  have k2 := hb1.trans hb2
  have hV2 := hV.kp k2
  replace r1 := hb2.row' r1
  simp only [e_fd, e_nck, e_pkt, e_pkf, e_gdtt, e_gdtf, e_gdft, e_gdff, e_ift, e_iff, e_not, e_ln, e_lnT, e_cp, e_cvi, e_ex20, e_ex21, e_ex30, e_ex31, e_ex32, e_add, e_sub, e_mul, e_quo, e_rem, e_and, e_or, e_xor, e_shl, e_shr, e_eql, e_neq, e_lss, e_leq, e_gtr, e_geq, e_beq, e_bne, e_peq1, e_peq2, e_pne1, e_pne2, e_zeq1, e_zeq2, e_zne1, e_zne2, e_feq1, e_fne1, e_feq2, e_fne2, e_seq, e_sne, e_ta1, e_ta2, Nat.zero_add, Nat.add_zero, Bool.not_true, Bool.not_false]
  refine ld1_r r1 rfl ?_
  refine ix1 (g := fun n : Int => I n) (fun _ => rfl) hV2.f haf fun b l _ hr hg => ?_
  rw [vw_first haf] at hg
  refine ld1_r hr hg ?_
  simp only [e_fd, e_nck, e_pkt, e_pkf, e_gdtt, e_gdtf, e_gdft, e_gdff, e_ift, e_iff, e_not, e_ln, e_lnT, e_cp, e_cvi, e_ex20, e_ex21, e_ex30, e_ex31, e_ex32, e_add, e_sub, e_mul, e_quo, e_rem, e_and, e_or, e_xor, e_shl, e_shr, e_eql, e_neq, e_lss, e_leq, e_gtr, e_geq, e_beq, e_bne, e_peq1, e_peq2, e_pne1, e_pne2, e_zeq1, e_zeq2, e_zne1, e_zne2, e_feq1, e_fne1, e_feq2, e_fne2, e_seq, e_sne, e_ta1, e_ta2, Nat.zero_add, Nat.add_zero, Bool.not_true, Bool.not_false]
  have hrow := hV2.r _ (List.getElem_mem hai)
  have hlen : its[a].cs.length = rlen a := by rw [hrows a hai]; unfold rowOf; rw [rowTo_length]
  -- not seen
  have no : ¬ seen now a s → bdq [(.int .i64 0), (.int .i64 0), (.int .i64 0), (.int .i64 0)] [] (fun t28 w => stn 4 (.pointer (some ⟨w1.heap.size, 0, none⟩)) t28 (fun w => ldn 4 (.pointer (some ⟨w1.heap.size, 0, none⟩)) (fun r0 _ => K (.tuple #[r0, (.bool false)]) w) w) w) w2 := by
    intro hns
    apply bdq_r rfl
    refine stn_r r2 rfl (Nat.le_of_ble_eq_true rfl) rfl fun w3 r3 hb3 hz3 => ?_
    refine ldn_r r3 (Nat.le_of_ble_eq_true rfl) ?_
    have := hK w3 (k2.then hb3 (by intro x hx (e : x = _); omega))
    unfold atC at this
    rw [if_neg hns, decide_eq_false hns] at this
    exact this
  by_cases hseen : seen now a s
  · have hsn := hseen
    unfold seen at hsn
    rw [wrap64_id (by omega) (by omega)]
    have hneg : ¬ s - fst1 now a < 0 := by omega
    simp only [hneg, decide_false, e_fd, e_nck, e_pkt, e_pkf, e_gdtt, e_gdtf, e_gdft, e_gdff, e_ift, e_iff, e_not, e_ln, e_lnT, e_cp, e_cvi, e_ex20, e_ex21, e_ex30, e_ex31, e_ex32, e_add, e_sub, e_mul, e_quo, e_rem, e_and, e_or, e_xor, e_shl, e_shr, e_eql, e_neq, e_lss, e_leq, e_gtr, e_geq, e_beq, e_bne, e_peq1, e_peq2, e_pne1, e_pne2, e_zeq1, e_zeq2, e_zne1, e_zne2, e_feq1, e_fne1, e_feq2, e_fne2, e_seq, e_sne, e_ta1, e_ta2, Nat.zero_add, Nat.add_zero, Bool.not_true, Bool.not_false]
    refine ld1_r r1 rfl ?_
    refine ix1 (g := It.rv) (fun _ => rfl) hV2.s hai fun b l _ hr hg => ?_
    try simp only [e_fd, e_nck, e_pkt, e_pkf, e_gdtt, e_gdtf, e_gdft, e_gdff, e_ift, e_iff, e_not, e_ln, e_lnT, e_cp, e_cvi, e_ex20, e_ex21, e_ex30, e_ex31, e_ex32, e_add, e_sub, e_mul, e_quo, e_rem, e_and, e_or, e_xor, e_shl, e_shr, e_eql, e_neq, e_lss, e_leq, e_gtr, e_geq, e_beq, e_bne, e_peq1, e_peq2, e_pne1, e_pne2, e_zeq1, e_zeq2, e_zne1, e_zne2, e_feq1, e_fne1, e_feq2, e_fne2, e_seq, e_sne, e_ta1, e_ta2, Nat.zero_add, Nat.add_zero, Bool.not_true, Bool.not_false]
    refine ld1_r hr hg ?_
    refine hrow.ln ?_
    rw [hlen]
    have hge : ¬ ((rlen a : Nat) : Int) ≤ s - fst1 now a := by omega
    simp only [hge, decide_false, e_fd, e_nck, e_pkt, e_pkf, e_gdtt, e_gdtf, e_gdft, e_gdff, e_ift, e_iff, e_not, e_ln, e_lnT, e_cp, e_cvi, e_ex20, e_ex21, e_ex30, e_ex31, e_ex32, e_add, e_sub, e_mul, e_quo, e_rem, e_and, e_or, e_xor, e_shl, e_shr, e_eql, e_neq, e_lss, e_leq, e_gtr, e_geq, e_beq, e_bne, e_peq1, e_peq2, e_pne1, e_pne2, e_zeq1, e_zeq2, e_zne1, e_zne2, e_feq1, e_fne1, e_feq2, e_fne2, e_seq, e_sne, e_ta1, e_ta2, Nat.zero_add, Nat.add_zero, Bool.not_true, Bool.not_false]
    refine ld1_r r1 rfl ?_
    refine ix1 (g := It.rv) (fun _ => rfl) hV2.s hai fun b l _ hr hg => ?_
    refine ld1_r hr hg ?_
    have ei : s - fst1 now a = (((s - fst1 now a).toNat : Nat) : Int) := by omega
    rw [ei]
    have hlt : (s - fst1 now a).toNat < its[a].cs.length := by rw [hlen]; omega
    refine hrow.read Ctr.cells_length hlt ?_
    have ec : its[a].cs[(s - fst1 now a).toNat] = ctrOf L a s := by
      have : (rowOf now L a)[(s - fst1 now a).toNat]? = some (ctrOf L a s) := by
        unfold rowOf rowTo
        rw [List.getElem?_map, List.getElem?_range (by omega)]
        show some (ctrOf L a (fst1 now a + ((s - fst1 now a).toNat : Nat))) = _
        have e : fst1 now a + ((s - fst1 now a).toNat : Nat) = s := by omega
        rw [e]
      rw [← hrows a hai, List.getElem?_eq_getElem hlt] at this
      simpa using this
    rw [ec]
    refine stn_r r2 rfl (Nat.le_of_ble_eq_true rfl) rfl fun w3 r3 hb3 hz3 => ?_
    refine ldn_r r3 (Nat.le_of_ble_eq_true rfl) ?_
    have := hK w3 (k2.then hb3 (by intro x hx (e : x = _); omega))
    unfold atC at this
    rw [if_pos hseen, decide_eq_true hseen] at this
    exact this
  · have hsn := hseen
    unfold seen at hsn
    have hcase : IntKind.i64.wrap (s - fst1 now a) < 0 ∨ (rlen a : Int) ≤ IntKind.i64.wrap (s - fst1 now a) := by
      by_cases q1 : 9223372036854775808 ≤ s - fst1 now a
      · rw [wrap64_hi q1 (by omega)]; omega
      · by_cases q2 : s - fst1 now a < -9223372036854775808
        · rw [wrap64_lo (by omega) q2]; omega
        · rw [wrap64_id (by omega) (by omega)]; omega
    generalize IntKind.i64.wrap (s - fst1 now a) = x at *
    by_cases hneg : x < 0
    · simp only [hneg, decide_true, e_fd, e_nck, e_pkt, e_pkf, e_gdtt, e_gdtf, e_gdft, e_gdff, e_ift, e_iff, e_not, e_ln, e_lnT, e_cp, e_cvi, e_ex20, e_ex21, e_ex30, e_ex31, e_ex32, e_add, e_sub, e_mul, e_quo, e_rem, e_and, e_or, e_xor, e_shl, e_shr, e_eql, e_neq, e_lss, e_leq, e_gtr, e_geq, e_beq, e_bne, e_peq1, e_peq2, e_pne1, e_pne2, e_zeq1, e_zeq2, e_zne1, e_zne2, e_feq1, e_fne1, e_feq2, e_fne2, e_seq, e_sne, e_ta1, e_ta2, Nat.zero_add, Nat.add_zero, Bool.not_true, Bool.not_false]
      exact no hseen
    · simp only [hneg, decide_false, e_fd, e_nck, e_pkt, e_pkf, e_gdtt, e_gdtf, e_gdft, e_gdff, e_ift, e_iff, e_not, e_ln, e_lnT, e_cp, e_cvi, e_ex20, e_ex21, e_ex30, e_ex31, e_ex32, e_add, e_sub, e_mul, e_quo, e_rem, e_and, e_or, e_xor, e_shl, e_shr, e_eql, e_neq, e_lss, e_leq, e_gtr, e_geq, e_beq, e_bne, e_peq1, e_peq2, e_pne1, e_pne2, e_zeq1, e_zeq2, e_zne1, e_zne2, e_feq1, e_fne1, e_feq2, e_fne2, e_seq, e_sne, e_ta1, e_ta2, Nat.zero_add, Nat.add_zero, Bool.not_true, Bool.not_false]
      refine ld1_r r1 rfl ?_
      refine ix1 (g := It.rv) (fun _ => rfl) hV2.s hai fun b l _ hr hg => ?_
      try simp only [e_fd, e_nck, e_pkt, e_pkf, e_gdtt, e_gdtf, e_gdft, e_gdff, e_ift, e_iff, e_not, e_ln, e_lnT, e_cp, e_cvi, e_ex20, e_ex21, e_ex30, e_ex31, e_ex32, e_add, e_sub, e_mul, e_quo, e_rem, e_and, e_or, e_xor, e_shl, e_shr, e_eql, e_neq, e_lss, e_leq, e_gtr, e_geq, e_beq, e_bne, e_peq1, e_peq2, e_pne1, e_pne2, e_zeq1, e_zeq2, e_zne1, e_zne2, e_feq1, e_fne1, e_feq2, e_fne2, e_seq, e_sne, e_ta1, e_ta2, Nat.zero_add, Nat.add_zero, Bool.not_true, Bool.not_false]
      refine ld1_r hr hg ?_
      refine hrow.ln ?_
      rw [hlen]
      have hge : ((rlen a : Nat) : Int) ≤ x := by omega
      simp only [hge, decide_true, e_fd, e_nck, e_pkt, e_pkf, e_gdtt, e_gdtf, e_gdft, e_gdff, e_ift, e_iff, e_not, e_ln, e_lnT, e_cp, e_cvi, e_ex20, e_ex21, e_ex30, e_ex31, e_ex32, e_add, e_sub, e_mul, e_quo, e_rem, e_and, e_or, e_xor, e_shl, e_shr, e_eql, e_neq, e_lss, e_leq, e_gtr, e_geq, e_beq, e_bne, e_peq1, e_peq2, e_pne1, e_pne2, e_zeq1, e_zeq2, e_zne1, e_zne2, e_feq1, e_fne1, e_feq2, e_fne2, e_seq, e_sne, e_ta1, e_ta2, Nat.zero_add, Nat.add_zero, Bool.not_true, Bool.not_false]
      exact no hseen

theorem St.cellOf {W w : World} {d tb : Nat} {now : Int} {ts : List Tab} {L : List Ent} (h : St W w d tb now ts L) {a : Nat} {s : Int} {K : Value → World → Prop} (ha : a < 4) (hal : a < ts.length) (s0 : fst1 now a ≤ s) (s1 : s < fst1 now a + rlen a)
    (hK : ∀ w', Kp (fun _ => False) w w' → K (.tuple #[I (ps ts[a] s % rlen a : Nat), I (rlen a), .nilIface]) w') :
    cl Try.prog 30 #[.pointer (some ⟨d, 0, none⟩), I a, I s] K w := by
  have hdw : (pa a).dwell = dw a := rfl
  have hb := pa_bd a
  have hrl : (rlen a : Int) = 6 + 2 * (dw a - 1) := by unfold rlen; omega
  have hf1 : fst1 now a = now - (dw a - 1) := rfl
  have hr := h.good.ring a hal
  have hlen : ts[a].occ.length = rlen a := by have := hr.len; omega
  refine CellOf_ok h.sys hal (by rw [hr.att]; omega) (by rw [hr.att]; omega) fun w' hk => ?_
  rw [hlen]
  exact hK w' hk
end Go.Proofs.Qxb6500897a
