import Derived.Test.Qxb6500897aP44
namespace Go.Proofs.Qxb6500897a
open Go.Sh Go.RowKit
set_option linter.unusedVariables false
set_option linter.unusedSimpArgs false

theorem chkP_iff {now attr slot cls n : Int} : chkP now attr slot cls n 0 = 0 ↔ 0 ≤ attr ∧ attr < 4 ∧ 0 ≤ cls ∧ cls < 3 ∧ 1 ≤ n ∧ now ≤ slot ∧ slot < now + 6 := by
  constructor
  · intro h
    have := chkP_ok h
    simp at this
    omega
  · intro h
    unfold chkP
    rw [if_neg (by omega), if_neg (by omega), if_neg (by omega), if_neg (by simp; omega)]

theorem wf_ok {w : World} {now : Int} {o : Op} {K : Value → World → Prop} (n0 : 0 ≤ now) (n1 : now ≤ 90) (hK : ∀ w', Kp (fun _ => False) w w' → K (.bool (decide (chkP now o.attr o.slot o.cls o.n 0 = 0))) w') :
    cl Try.prog 25 #[.agg o.cells.toArray, I now] K w := by
  apply c25
  unfold s25_p1
  refine nw_r fun w1 r1 hb1 hz1 => ?_
  replace r1 : Row w1 w.heap.size 34 o.cells := r1
  refine park_ok fun w2 pb hpb rp hb2 => ?_
  refine nw_r fun w3 r3 hb3 hz3 => ?_
  refine stn_r r3 rfl (Nat.le_of_ble_eq_true rfl) rfl fun w4 r4 hb4 hz4 => ?_
  replace r4 : Row w4 w2.heap.size 30 [I 6, I 90, .slice (some ⟨pb, 0, none⟩) 4 4] := r4
  have hz2 := hb2.size
  have hz3' := hb3.size
  have k4 : Kp (fun _ => False) w w4 := ((hb1.trans hb2).trans hb3).then hb4 (by intro x hx (e : x = _); omega)
  have r1' : Row w4 w.heap.size 34 o.cells := hb4.row (hb3.row' (hb2.row' r1)) (by intro (e : w.heap.size = _); omega)
  have hK := hK w4 k4
  have no : ¬ (0 ≤ o.attr ∧ o.attr < 4 ∧ 0 ≤ o.cls ∧ o.cls < 3 ∧ 1 ≤ o.n ∧ now ≤ o.slot ∧ o.slot < now + 6) → K (.bool false) w4 := by
    intro h
    rw [decide_eq_false (fun e => h (chkP_iff.1 e))] at hK
    exact hK
  simp only [e_fd, e_nck, e_pkt, e_pkf, e_gdtt, e_gdtf, e_gdft, e_gdff, e_ift, e_iff, e_not, e_ln, e_lnT, e_cp, e_cvi, e_ex20, e_ex21, e_ex30, e_ex31, e_ex32, e_add, e_sub, e_mul, e_quo, e_rem, e_and, e_or, e_xor, e_shl, e_shr, e_eql, e_neq, e_lss, e_leq, e_gtr, e_geq, e_beq, e_bne, e_peq1, e_peq2, e_pne1, e_pne2, e_zeq1, e_zeq2, e_zne1, e_zne2, e_feq1, e_fne1, e_feq2, e_fne2, e_seq, e_sne, e_ta1, e_ta2, Nat.zero_add, Nat.add_zero, Bool.not_true, Bool.not_false]
  refine ld1_r r1' rfl ?_
  simp only [e_fd, e_nck, e_pkt, e_pkf, e_gdtt, e_gdtf, e_gdft, e_gdff, e_ift, e_iff, e_not, e_ln, e_lnT, e_cp, e_cvi, e_ex20, e_ex21, e_ex30, e_ex31, e_ex32, e_add, e_sub, e_mul, e_quo, e_rem, e_and, e_or, e_xor, e_shl, e_shr, e_eql, e_neq, e_lss, e_leq, e_gtr, e_geq, e_beq, e_bne, e_peq1, e_peq2, e_pne1, e_pne2, e_zeq1, e_zeq2, e_zne1, e_zne2, e_feq1, e_fne1, e_feq2, e_fne2, e_seq, e_sne, e_ta1, e_ta2, Nat.zero_add, Nat.add_zero, Bool.not_true, Bool.not_false]
  by_cases c1 : 0 ≤ o.attr
  · simp only [c1, decide_true, e_fd, e_nck, e_pkt, e_pkf, e_gdtt, e_gdtf, e_gdft, e_gdff, e_ift, e_iff, e_not, e_ln, e_lnT, e_cp, e_cvi, e_ex20, e_ex21, e_ex30, e_ex31, e_ex32, e_add, e_sub, e_mul, e_quo, e_rem, e_and, e_or, e_xor, e_shl, e_shr, e_eql, e_neq, e_lss, e_leq, e_gtr, e_geq, e_beq, e_bne, e_peq1, e_peq2, e_pne1, e_pne2, e_zeq1, e_zeq2, e_zne1, e_zne2, e_feq1, e_fne1, e_feq2, e_fne2, e_seq, e_sne, e_ta1, e_ta2, Nat.zero_add, Nat.add_zero, Bool.not_true, Bool.not_false]
    refine ld1_r r1' rfl ?_
    refine ld1_r r4 rfl ?_
    simp only [e_fd, e_nck, e_pkt, e_pkf, e_gdtt, e_gdtf, e_gdft, e_gdff, e_ift, e_iff, e_not, e_ln, e_lnT, e_cp, e_cvi, e_ex20, e_ex21, e_ex30, e_ex31, e_ex32, e_add, e_sub, e_mul, e_quo, e_rem, e_and, e_or, e_xor, e_shl, e_shr, e_eql, e_neq, e_lss, e_leq, e_gtr, e_geq, e_beq, e_bne, e_peq1, e_peq2, e_pne1, e_pne2, e_zeq1, e_zeq2, e_zne1, e_zne2, e_feq1, e_fne1, e_feq2, e_fne2, e_seq, e_sne, e_ta1, e_ta2, Nat.zero_add, Nat.add_zero, Bool.not_true, Bool.not_false]
    by_cases c2 : o.attr < ((4 : Nat) : Int)
    · simp only [c2, decide_true, e_fd, e_nck, e_pkt, e_pkf, e_gdtt, e_gdtf, e_gdft, e_gdff, e_ift, e_iff, e_not, e_ln, e_lnT, e_cp, e_cvi, e_ex20, e_ex21, e_ex30, e_ex31, e_ex32, e_add, e_sub, e_mul, e_quo, e_rem, e_and, e_or, e_xor, e_shl, e_shr, e_eql, e_neq, e_lss, e_leq, e_gtr, e_geq, e_beq, e_bne, e_peq1, e_peq2, e_pne1, e_pne2, e_zeq1, e_zeq2, e_zne1, e_zne2, e_feq1, e_fne1, e_feq2, e_fne2, e_seq, e_sne, e_ta1, e_ta2, Nat.zero_add, Nat.add_zero, Bool.not_true, Bool.not_false]
      refine ld1_r r1' rfl ?_
      simp only [e_fd, e_nck, e_pkt, e_pkf, e_gdtt, e_gdtf, e_gdft, e_gdff, e_ift, e_iff, e_not, e_ln, e_lnT, e_cp, e_cvi, e_ex20, e_ex21, e_ex30, e_ex31, e_ex32, e_add, e_sub, e_mul, e_quo, e_rem, e_and, e_or, e_xor, e_shl, e_shr, e_eql, e_neq, e_lss, e_leq, e_gtr, e_geq, e_beq, e_bne, e_peq1, e_peq2, e_pne1, e_pne2, e_zeq1, e_zeq2, e_zne1, e_zne2, e_feq1, e_fne1, e_feq2, e_fne2, e_seq, e_sne, e_ta1, e_ta2, Nat.zero_add, Nat.add_zero, Bool.not_true, Bool.not_false]
      by_cases c3 : 0 ≤ o.cls
      · simp only [c3, decide_true, e_fd, e_nck, e_pkt, e_pkf, e_gdtt, e_gdtf, e_gdft, e_gdff, e_ift, e_iff, e_not, e_ln, e_lnT, e_cp, e_cvi, e_ex20, e_ex21, e_ex30, e_ex31, e_ex32, e_add, e_sub, e_mul, e_quo, e_rem, e_and, e_or, e_xor, e_shl, e_shr, e_eql, e_neq, e_lss, e_leq, e_gtr, e_geq, e_beq, e_bne, e_peq1, e_peq2, e_pne1, e_pne2, e_zeq1, e_zeq2, e_zne1, e_zne2, e_feq1, e_fne1, e_feq2, e_fne2, e_seq, e_sne, e_ta1, e_ta2, Nat.zero_add, Nat.add_zero, Bool.not_true, Bool.not_false]
        refine ld1_r r1' rfl ?_
        simp only [e_fd, e_nck, e_pkt, e_pkf, e_gdtt, e_gdtf, e_gdft, e_gdff, e_ift, e_iff, e_not, e_ln, e_lnT, e_cp, e_cvi, e_ex20, e_ex21, e_ex30, e_ex31, e_ex32, e_add, e_sub, e_mul, e_quo, e_rem, e_and, e_or, e_xor, e_shl, e_shr, e_eql, e_neq, e_lss, e_leq, e_gtr, e_geq, e_beq, e_bne, e_peq1, e_peq2, e_pne1, e_pne2, e_zeq1, e_zeq2, e_zne1, e_zne2, e_feq1, e_fne1, e_feq2, e_fne2, e_seq, e_sne, e_ta1, e_ta2, Nat.zero_add, Nat.add_zero, Bool.not_true, Bool.not_false]
        by_cases c4 : o.cls < 3
        · simp only [c4, decide_true, e_fd, e_nck, e_pkt, e_pkf, e_gdtt, e_gdtf, e_gdft, e_gdff, e_ift, e_iff, e_not, e_ln, e_lnT, e_cp, e_cvi, e_ex20, e_ex21, e_ex30, e_ex31, e_ex32, e_add, e_sub, e_mul, e_quo, e_rem, e_and, e_or, e_xor, e_shl, e_shr, e_eql, e_neq, e_lss, e_leq, e_gtr, e_geq, e_beq, e_bne, e_peq1, e_peq2, e_pne1, e_pne2, e_zeq1, e_zeq2, e_zne1, e_zne2, e_feq1, e_fne1, e_feq2, e_fne2, e_seq, e_sne, e_ta1, e_ta2, Nat.zero_add, Nat.add_zero, Bool.not_true, Bool.not_false]
          refine ld1_r r1' rfl ?_
          simp only [e_fd, e_nck, e_pkt, e_pkf, e_gdtt, e_gdtf, e_gdft, e_gdff, e_ift, e_iff, e_not, e_ln, e_lnT, e_cp, e_cvi, e_ex20, e_ex21, e_ex30, e_ex31, e_ex32, e_add, e_sub, e_mul, e_quo, e_rem, e_and, e_or, e_xor, e_shl, e_shr, e_eql, e_neq, e_lss, e_leq, e_gtr, e_geq, e_beq, e_bne, e_peq1, e_peq2, e_pne1, e_pne2, e_zeq1, e_zeq2, e_zne1, e_zne2, e_feq1, e_fne1, e_feq2, e_fne2, e_seq, e_sne, e_ta1, e_ta2, Nat.zero_add, Nat.add_zero, Bool.not_true, Bool.not_false]
          by_cases c5 : 1 ≤ o.n
          · simp only [c5, decide_true, e_fd, e_nck, e_pkt, e_pkf, e_gdtt, e_gdtf, e_gdft, e_gdff, e_ift, e_iff, e_not, e_ln, e_lnT, e_cp, e_cvi, e_ex20, e_ex21, e_ex30, e_ex31, e_ex32, e_add, e_sub, e_mul, e_quo, e_rem, e_and, e_or, e_xor, e_shl, e_shr, e_eql, e_neq, e_lss, e_leq, e_gtr, e_geq, e_beq, e_bne, e_peq1, e_peq2, e_pne1, e_pne2, e_zeq1, e_zeq2, e_zne1, e_zne2, e_feq1, e_fne1, e_feq2, e_fne2, e_seq, e_sne, e_ta1, e_ta2, Nat.zero_add, Nat.add_zero, Bool.not_true, Bool.not_false]
            refine ld1_r r1' rfl ?_
            simp only [e_fd, e_nck, e_pkt, e_pkf, e_gdtt, e_gdtf, e_gdft, e_gdff, e_ift, e_iff, e_not, e_ln, e_lnT, e_cp, e_cvi, e_ex20, e_ex21, e_ex30, e_ex31, e_ex32, e_add, e_sub, e_mul, e_quo, e_rem, e_and, e_or, e_xor, e_shl, e_shr, e_eql, e_neq, e_lss, e_leq, e_gtr, e_geq, e_beq, e_bne, e_peq1, e_peq2, e_pne1, e_pne2, e_zeq1, e_zeq2, e_zne1, e_zne2, e_feq1, e_fne1, e_feq2, e_fne2, e_seq, e_sne, e_ta1, e_ta2, Nat.zero_add, Nat.add_zero, Bool.not_true, Bool.not_false]
            by_cases c6 : now ≤ o.slot
            · simp only [c6, decide_true, e_fd, e_nck, e_pkt, e_pkf, e_gdtt, e_gdtf, e_gdft, e_gdff, e_ift, e_iff, e_not, e_ln, e_lnT, e_cp, e_cvi, e_ex20, e_ex21, e_ex30, e_ex31, e_ex32, e_add, e_sub, e_mul, e_quo, e_rem, e_and, e_or, e_xor, e_shl, e_shr, e_eql, e_neq, e_lss, e_leq, e_gtr, e_geq, e_beq, e_bne, e_peq1, e_peq2, e_pne1, e_pne2, e_zeq1, e_zeq2, e_zne1, e_zne2, e_feq1, e_fne1, e_feq2, e_fne2, e_seq, e_sne, e_ta1, e_ta2, Nat.zero_add, Nat.add_zero, Bool.not_true, Bool.not_false]
              refine ld1_r r1' rfl ?_
              refine ld1_r r4 rfl ?_
              simp only [e_fd, e_nck, e_pkt, e_pkf, e_gdtt, e_gdtf, e_gdft, e_gdff, e_ift, e_iff, e_not, e_ln, e_lnT, e_cp, e_cvi, e_ex20, e_ex21, e_ex30, e_ex31, e_ex32, e_add, e_sub, e_mul, e_quo, e_rem, e_and, e_or, e_xor, e_shl, e_shr, e_eql, e_neq, e_lss, e_leq, e_gtr, e_geq, e_beq, e_bne, e_peq1, e_peq2, e_pne1, e_pne2, e_zeq1, e_zeq2, e_zne1, e_zne2, e_feq1, e_fne1, e_feq2, e_fne2, e_seq, e_sne, e_ta1, e_ta2, Nat.zero_add, Nat.add_zero, Bool.not_true, Bool.not_false]
              rw [wrap64_id (by omega) (by omega)]
              by_cases c7 : o.slot < now + 6
              · simp only [c7, decide_true, e_fd, e_nck, e_pkt, e_pkf, e_gdtt, e_gdtf, e_gdft, e_gdff, e_ift, e_iff, e_not, e_ln, e_lnT, e_cp, e_cvi, e_ex20, e_ex21, e_ex30, e_ex31, e_ex32, e_add, e_sub, e_mul, e_quo, e_rem, e_and, e_or, e_xor, e_shl, e_shr, e_eql, e_neq, e_lss, e_leq, e_gtr, e_geq, e_beq, e_bne, e_peq1, e_peq2, e_pne1, e_pne2, e_zeq1, e_zeq2, e_zne1, e_zne2, e_feq1, e_fne1, e_feq2, e_fne2, e_seq, e_sne, e_ta1, e_ta2, Nat.zero_add, Nat.add_zero, Bool.not_true, Bool.not_false]
                rw [decide_eq_true (chkP_iff.2 ⟨c1, by omega, c3, c4, c5, c6, c7⟩)] at hK
                exact hK
              · simp only [c7, decide_false, e_fd, e_nck, e_pkt, e_pkf, e_gdtt, e_gdtf, e_gdft, e_gdff, e_ift, e_iff, e_not, e_ln, e_lnT, e_cp, e_cvi, e_ex20, e_ex21, e_ex30, e_ex31, e_ex32, e_add, e_sub, e_mul, e_quo, e_rem, e_and, e_or, e_xor, e_shl, e_shr, e_eql, e_neq, e_lss, e_leq, e_gtr, e_geq, e_beq, e_bne, e_peq1, e_peq2, e_pne1, e_pne2, e_zeq1, e_zeq2, e_zne1, e_zne2, e_feq1, e_fne1, e_feq2, e_fne2, e_seq, e_sne, e_ta1, e_ta2, Nat.zero_add, Nat.add_zero, Bool.not_true, Bool.not_false]
                exact no (by omega)
            · simp only [c6, decide_false, e_fd, e_nck, e_pkt, e_pkf, e_gdtt, e_gdtf, e_gdft, e_gdff, e_ift, e_iff, e_not, e_ln, e_lnT, e_cp, e_cvi, e_ex20, e_ex21, e_ex30, e_ex31, e_ex32, e_add, e_sub, e_mul, e_quo, e_rem, e_and, e_or, e_xor, e_shl, e_shr, e_eql, e_neq, e_lss, e_leq, e_gtr, e_geq, e_beq, e_bne, e_peq1, e_peq2, e_pne1, e_pne2, e_zeq1, e_zeq2, e_zne1, e_zne2, e_feq1, e_fne1, e_feq2, e_fne2, e_seq, e_sne, e_ta1, e_ta2, Nat.zero_add, Nat.add_zero, Bool.not_true, Bool.not_false]
              exact no (by omega)
          · simp only [c5, decide_false, e_fd, e_nck, e_pkt, e_pkf, e_gdtt, e_gdtf, e_gdft, e_gdff, e_ift, e_iff, e_not, e_ln, e_lnT, e_cp, e_cvi, e_ex20, e_ex21, e_ex30, e_ex31, e_ex32, e_add, e_sub, e_mul, e_quo, e_rem, e_and, e_or, e_xor, e_shl, e_shr, e_eql, e_neq, e_lss, e_leq, e_gtr, e_geq, e_beq, e_bne, e_peq1, e_peq2, e_pne1, e_pne2, e_zeq1, e_zeq2, e_zne1, e_zne2, e_feq1, e_fne1, e_feq2, e_fne2, e_seq, e_sne, e_ta1, e_ta2, Nat.zero_add, Nat.add_zero, Bool.not_true, Bool.not_false]
            exact no (by omega)
        · simp only [c4, decide_false, e_fd, e_nck, e_pkt, e_pkf, e_gdtt, e_gdtf, e_gdft, e_gdff, e_ift, e_iff, e_not, e_ln, e_lnT, e_cp, e_cvi, e_ex20, e_ex21, e_ex30, e_ex31, e_ex32, e_add, e_sub, e_mul, e_quo, e_rem, e_and, e_or, e_xor, e_shl, e_shr, e_eql, e_neq, e_lss, e_leq, e_gtr, e_geq, e_beq, e_bne, e_peq1, e_peq2, e_pne1, e_pne2, e_zeq1, e_zeq2, e_zne1, e_zne2, e_feq1, e_fne1, e_feq2, e_fne2, e_seq, e_sne, e_ta1, e_ta2, Nat.zero_add, Nat.add_zero, Bool.not_true, Bool.not_false]
          exact no (by omega)
      · simp only [c3, decide_false, e_fd, e_nck, e_pkt, e_pkf, e_gdtt, e_gdtf, e_gdft, e_gdff, e_ift, e_iff, e_not, e_ln, e_lnT, e_cp, e_cvi, e_ex20, e_ex21, e_ex30, e_ex31, e_ex32, e_add, e_sub, e_mul, e_quo, e_rem, e_and, e_or, e_xor, e_shl, e_shr, e_eql, e_neq, e_lss, e_leq, e_gtr, e_geq, e_beq, e_bne, e_peq1, e_peq2, e_pne1, e_pne2, e_zeq1, e_zeq2, e_zne1, e_zne2, e_feq1, e_fne1, e_feq2, e_fne2, e_seq, e_sne, e_ta1, e_ta2, Nat.zero_add, Nat.add_zero, Bool.not_true, Bool.not_false]
        exact no (by omega)
    · simp only [c2, decide_false, e_fd, e_nck, e_pkt, e_pkf, e_gdtt, e_gdtf, e_gdft, e_gdff, e_ift, e_iff, e_not, e_ln, e_lnT, e_cp, e_cvi, e_ex20, e_ex21, e_ex30, e_ex31, e_ex32, e_add, e_sub, e_mul, e_quo, e_rem, e_and, e_or, e_xor, e_shl, e_shr, e_eql, e_neq, e_lss, e_leq, e_gtr, e_geq, e_beq, e_bne, e_peq1, e_peq2, e_pne1, e_pne2, e_zeq1, e_zeq2, e_zne1, e_zne2, e_feq1, e_fne1, e_feq2, e_fne2, e_seq, e_sne, e_ta1, e_ta2, Nat.zero_add, Nat.add_zero, Bool.not_true, Bool.not_false]
      exact no (by omega)
  · simp only [c1, decide_false, e_fd, e_nck, e_pkt, e_pkf, e_gdtt, e_gdtf, e_gdft, e_gdff, e_ift, e_iff, e_not, e_ln, e_lnT, e_cp, e_cvi, e_ex20, e_ex21, e_ex30, e_ex31, e_ex32, e_add, e_sub, e_mul, e_quo, e_rem, e_and, e_or, e_xor, e_shl, e_shr, e_eql, e_neq, e_lss, e_leq, e_gtr, e_geq, e_beq, e_bne, e_peq1, e_peq2, e_pne1, e_pne2, e_zeq1, e_zeq2, e_zne1, e_zne2, e_feq1, e_fne1, e_feq2, e_fne2, e_seq, e_sne, e_ta1, e_ta2, Nat.zero_add, Nat.add_zero, Bool.not_true, Bool.not_false]
    exact no (by omega)

/-! ### AdmitExactlyIfItFits -/
section
variable {W w0 w : World} {d tb b : Nat} {now : Int} {ts : List Tab} {L L' : List Ent} {o : Op} {K : Value → World → Prop} {B1 : List Value → World → Prop} {v ln ii : Value}
  {fob : Option Nat} {fv : Value} {sob : Option Nat} {sv : Value} {its : List It} {lo vb : Nat}

/-- before and after are the same -/
theorem adm_same (h : St W w0 d tb now ts L') (rv : Row w0 vb 43 [.bool true, I now, fv, sv]) (hV : VP w0 fob fv sob sv (vwOf now L').first its lo) (hcs : (vwOf now L').slots = its.map (·.cs)) (hw : Kp (fun _ => False) w0 w)
    (hK : ∀ w', Kp (fun _ => False) w0 w' → s5_p2 K B1 (ptr d) v ln ii w') : s5_p4 K B1 (ptr d) (ptr vb) v ln ii w := by
  have hwd : Kp (fun _ => False) w0 (drw w) := hw.trans kp_drw
  unfold s5_p4 s5_p4_d
  refine ldn_r (hwd.row' rv) (Nat.le_of_ble_eq_true rfl) ?_
  refine look_ok (h.kp hwd) fun w4 val4 hv4 hk4 => ⟨hk4.below', ?_⟩
  refine same_vw (L := L') (now := now) ⟨fob, fv, sob, sv, its, rfl, (hV.kp hwd).kp hk4, hcs⟩ hv4 fun w5 hk5 => ?_
  simp only [e_fd, e_nck, e_pkt, e_pkf, e_gdtt, e_gdtf, e_gdft, e_gdff, e_ift, e_iff, e_not, e_ln, e_lnT, e_cp, e_cvi, e_ex20, e_ex21, e_ex30, e_ex31, e_ex32, e_add, e_sub, e_mul, e_quo, e_rem, e_and, e_or, e_xor, e_shl, e_shr, e_eql, e_neq, e_lss, e_leq, e_gtr, e_geq, e_beq, e_bne, e_peq1, e_peq2, e_pne1, e_pne2, e_zeq1, e_zeq2, e_zne1, e_zne2, e_feq1, e_fne1, e_feq2, e_fne2, e_seq, e_sne, e_ta1, e_ta2, Nat.zero_add, Nat.add_zero, Bool.not_true, Bool.not_false, Bool.not_true]
  unfold s5_p3
  simp only [e_fd, e_nck, e_pkt, e_pkf, e_gdtt, e_gdtf, e_gdft, e_gdff, e_ift, e_iff, e_not, e_ln, e_lnT, e_cp, e_cvi, e_ex20, e_ex21, e_ex30, e_ex31, e_ex32, e_add, e_sub, e_mul, e_quo, e_rem, e_and, e_or, e_xor, e_shl, e_shr, e_eql, e_neq, e_lss, e_leq, e_gtr, e_geq, e_beq, e_bne, e_peq1, e_peq2, e_pne1, e_pne2, e_zeq1, e_zeq2, e_zne1, e_zne2, e_feq1, e_fne1, e_feq2, e_fne2, e_seq, e_sne, e_ta1, e_ta2, Nat.zero_add, Nat.add_zero, Bool.not_true, Bool.not_false]
  exact hK _ ((hwd.trans hk4).trans hk5)

/-- the verdict -/
theorem adm_end (h : St W w0 d tb now ts L') (rv : Row w0 vb 43 [.bool true, I now, fv, sv]) (hV : VP w0 fob fv sob sv (vwOf now L).first its lo) (hcs : (vwOf now L).slots = its.map (·.cs)) (hr : Row w0 b 34 o.cells) (hin : Inv now L)
    (hlo : W.heap.size ≤ lo) (hlt : ∀ k, k = d ∨ k = tb ∨ k ∈ blks ts → k < lo)
    (hL' : L' = if mFits now L o.attr o.slot o.cls o.n = 0 then L ++ [⟨o.attr.toNat, o.slot, o.cls.toNat, o.n⟩] else L) {f : Bool} (hf : f = true ↔ mFits now L o.attr o.slot o.cls o.n = 0) (hw : Kp (fun _ => False) w0 w)
    (hK : ∀ w', St W w' d tb now ts L' → s5_p2 K B1 (ptr d) v ln ii w') : s5_p5 K B1 (ptr d) (ptr b) (ptr vb) (I (mFits now L o.attr o.slot o.cls o.n)) (.bool f) v ln ii w := by
  unfold s5_p5
  simp only [e_fd, e_nck, e_pkt, e_pkf, e_gdtt, e_gdtf, e_gdft, e_gdff, e_ift, e_iff, e_not, e_ln, e_lnT, e_cp, e_cvi, e_ex20, e_ex21, e_ex30, e_ex31, e_ex32, e_add, e_sub, e_mul, e_quo, e_rem, e_and, e_or, e_xor, e_shl, e_shr, e_eql, e_neq, e_lss, e_leq, e_gtr, e_geq, e_beq, e_bne, e_peq1, e_peq2, e_pne1, e_pne2, e_zeq1, e_zeq2, e_zne1, e_zne2, e_feq1, e_fne1, e_feq2, e_fne2, e_seq, e_sne, e_ta1, e_ta2, Nat.zero_add, Nat.add_zero, Bool.not_true, Bool.not_false]
  have hw' := h.kp hw
  by_cases hm : mFits now L o.attr o.slot o.cls o.n = 0
  · have e0 : (mFits now L o.attr o.slot o.cls o.n == 0) = true := by simpa using hm
    have ef : f = true := hf.2 hm
    subst ef
    simp only [e0, e_fd, e_nck, e_pkt, e_pkf, e_gdtt, e_gdtf, e_gdft, e_gdff, e_ift, e_iff, e_not, e_ln, e_lnT, e_cp, e_cvi, e_ex20, e_ex21, e_ex30, e_ex31, e_ex32, e_add, e_sub, e_mul, e_quo, e_rem, e_and, e_or, e_xor, e_shl, e_shr, e_eql, e_neq, e_lss, e_leq, e_gtr, e_geq, e_beq, e_bne, e_peq1, e_peq2, e_pne1, e_pne2, e_zeq1, e_zeq2, e_zne1, e_zne2, e_feq1, e_fne1, e_feq2, e_fne2, e_seq, e_sne, e_ta1, e_ta2, Nat.zero_add, Nat.add_zero, Bool.not_true, Bool.not_false, show (!(true == true)) = false from rfl]
    rw [if_pos hm] at hL'
    have hok := mFits_ok hm hin
    have hb := pa_bd o.attr.toNat
    have hdw : (pa o.attr.toNat).dwell = dw o.attr.toNat := rfl
    unfold ptr
    refine ldn_r (hw.row' rv) (Nat.le_of_ble_eq_true rfl) ?_
    refine ldn_r (hw.row' hr) (Nat.le_of_ble_eq_true rfl) ?_
    simp only [e_fd, e_nck, e_pkt, e_pkf, e_gdtt, e_gdtf, e_gdft, e_gdff, e_ift, e_iff, e_not, e_ln, e_lnT, e_cp, e_cvi, e_ex20, e_ex21, e_ex30, e_ex31, e_ex32, e_add, e_sub, e_mul, e_quo, e_rem, e_and, e_or, e_xor, e_shl, e_shr, e_eql, e_neq, e_lss, e_leq, e_gtr, e_geq, e_beq, e_bne, e_peq1, e_peq2, e_pne1, e_pne2, e_zeq1, e_zeq2, e_zne1, e_zne2, e_feq1, e_fne1, e_feq2, e_fne2, e_seq, e_sne, e_ta1, e_ta2, Nat.zero_add, Nat.add_zero, Bool.not_true, Bool.not_false]
    refine ld1_r (hw.row' hr) rfl ?_
    refine book_ok (a := o.attr.toNat) (c := o.cls.toNat) (o := o) (hV.kp hw) hcs hin (by omega) (by omega) (by omega) (by omega) (by unfold fst1; omega) (by omega) (by omega) fun w1 its1 hV1 hcs1 hk1 => ?_
    rw [← hL'] at hV1 hcs1
    have hk1' : ∀ k, (∃ x ∈ its, k = x.rb) → W.heap.size ≤ k ∧ k ≠ d ∧ k ≠ tb ∧ k ∉ blks ts := by
      rintro k ⟨x, hx, rfl⟩
      have := hV.rl x hx
      refine ⟨by omega, fun e => ?_, fun e => ?_, fun e => ?_⟩
      · have := hlt _ (.inl e); omega
      · have := hlt _ (.inr (.inl e)); omega
      · have := hlt _ (.inr (.inr e)); omega
    have h1 := hw'.kpS hk1 hk1'
    have rv1 : Row w1 vb 43 [.bool true, I now, fv, sv] := hk1.row (hw.row' rv) (by
      rintro ⟨x, hx, e⟩
      obtain ⟨l, hl⟩ := ((hV.kp hw).r x hx).row rfl
      exact row_ne (hw.row' rv) hl (by decide) e)
    exact adm_same h1 rv1 hV1 hcs1 (Kp.refl _ _) fun w2 hk2 => hK w2 (h1.kp hk2)
  · have e0 : (mFits now L o.attr o.slot o.cls o.n == 0) = false := by simpa using hm
    have ef : f = false := by
      cases f with
      | true => exact absurd (hf.1 rfl) hm
      | false => rfl
    subst ef
    simp only [e0, e_fd, e_nck, e_pkt, e_pkf, e_gdtt, e_gdtf, e_gdft, e_gdff, e_ift, e_iff, e_not, e_ln, e_lnT, e_cp, e_cvi, e_ex20, e_ex21, e_ex30, e_ex31, e_ex32, e_add, e_sub, e_mul, e_quo, e_rem, e_and, e_or, e_xor, e_shl, e_shr, e_eql, e_neq, e_lss, e_leq, e_gtr, e_geq, e_beq, e_bne, e_peq1, e_peq2, e_pne1, e_pne2, e_zeq1, e_zeq2, e_zne1, e_zne2, e_feq1, e_fne1, e_feq2, e_fne2, e_seq, e_sne, e_ta1, e_ta2, Nat.zero_add, Nat.add_zero, Bool.not_true, Bool.not_false, show (!(false == false)) = false from rfl]
    rw [if_neg hm] at hL'
    rw [← hL'] at hV hcs
    exact adm_same hw' (hw.row' rv) (hV.kp hw) hcs (Kp.refl _ _) fun w2 hk2 => hK w2 (hw'.kp hk2)

/-- the quota -/
theorem adm_quota {a c c10 : Nat} (h : St W w0 d tb now ts L') (rv : Row w0 vb 43 [.bool true, I now, fv, sv]) (hV : VP w0 fob fv sob sv (vwOf now L).first its lo) (hcs : (vwOf now L).slots = its.map (·.cs)) (hr : Row w0 b 34 o.cells) (hin : Inv now L)
    (ra : Row w0 c10 59 (pa a).cells) (ea : o.attr = (a : Int)) (ec : o.cls = (c : Int)) (hck : chkP now o.attr o.slot o.cls o.n 0 = 0) (ho : o.Wf)
    (hlo : W.heap.size ≤ lo) (hlt : ∀ k, k = d ∨ k = tb ∨ k ∈ blks ts → k < lo)
    (hL' : L' = if mFits now L o.attr o.slot o.cls o.n = 0 then L ++ [⟨o.attr.toNat, o.slot, o.cls.toNat, o.n⟩] else L) {f : Bool} (hf : f = true ↔ ∀ u, o.slot ≤ u → u < o.slot + dw a → ins L a (dw a) u ≤ (pa a).cap - o.n) (hw : Kp (fun _ => False) w0 w)
    (hK : ∀ w', St W w' d tb now ts L' → s5_p2 K B1 (ptr d) v ln ii w') : s5_p8 K B1 (ptr d) (ptr b) (ptr vb) (I (mFits now L o.attr o.slot o.cls o.n)) (.bool f) (ptr c10) v ln ii w := by
  have hk := chkP_iff.1 hck
  have n0 := hin.n0
  have n1 := hin.n1
  have hb := pa_bd a
  have hdw : (pa a).dwell = dw a := rfl
  have ha : a < 4 := by omega
  have hc : c < 3 := by omega
  have hrl : (rlen a : Int) = 6 + 2 * (dw a - 1) := by unfold rlen; omega
  have hen := hin.en a o.slot c hc
  have hq := hb.2.2.2.2 c
  -- the verdict of the model
  have hmf : mFits now L o.attr o.slot o.cls o.n = 0 ↔ (∀ u, o.slot ≤ u → u < o.slot + dw a → ins L a (dw a) u ≤ (pa a).cap - o.n) ∧ ¬ (pa a).q c - ent L a o.slot c < o.n := by
    unfold mFits
    rw [if_pos hck]
    have e1 : o.attr.toNat = a := by omega
    have e2 : o.cls.toNat = c := by omega
    rw [e1, e2]
    unfold fitM
    by_cases h1 : ∀ u, o.slot ≤ u → u < o.slot + dw a → ins L a (dw a) u ≤ (pa a).cap - o.n
    · rw [if_pos (all_range.2 h1)]
      by_cases h2 : (pa a).q c - ent L a o.slot c < o.n
      · rw [if_pos h2]; simp [h2]
      · rw [if_neg h2]; simp [h2]; exact h1
    · rw [if_neg (fun q => h1 (all_range.1 q))]
      simp [h1]
  unfold s5_p8 ptr
  refine ldn_r (hw.row' rv) (Nat.le_of_ble_eq_true rfl) ?_
  simp only [e_fd, e_nck, e_pkt, e_pkf, e_gdtt, e_gdtf, e_gdft, e_gdff, e_ift, e_iff, e_not, e_ln, e_lnT, e_cp, e_cvi, e_ex20, e_ex21, e_ex30, e_ex31, e_ex32, e_add, e_sub, e_mul, e_quo, e_rem, e_and, e_or, e_xor, e_shl, e_shr, e_eql, e_neq, e_lss, e_leq, e_gtr, e_geq, e_beq, e_bne, e_peq1, e_peq2, e_pne1, e_pne2, e_zeq1, e_zeq2, e_zne1, e_zne2, e_feq1, e_fne1, e_feq2, e_fne2, e_seq, e_sne, e_ta1, e_ta2, Nat.zero_add, Nat.add_zero, Bool.not_true, Bool.not_false]
  refine ld1_r (v := I a) (hw.row' hr) (by show some (I o.attr) = _; rw [ea]) ?_
  refine ld1_r (hw.row' hr) rfl ?_
  refine at_ok (hV.kp hw) hcs n0 n1 ha ho.slot fun w1 hk1 => ?_
  have hseen : seen now a o.slot := ⟨by unfold fst1; omega, by unfold fst1; omega⟩
  have eat : atC now L a o.slot = ctrOf L a o.slot := by unfold atC; rw [if_pos hseen]
  rw [eat]
  simp only [e_fd, e_nck, e_pkt, e_pkf, e_gdtt, e_gdtf, e_gdft, e_gdff, e_ift, e_iff, e_not, e_ln, e_lnT, e_cp, e_cvi, e_ex20, e_ex21, e_ex30, e_ex31, e_ex32, e_add, e_sub, e_mul, e_quo, e_rem, e_and, e_or, e_xor, e_shl, e_shr, e_eql, e_neq, e_lss, e_leq, e_gtr, e_geq, e_beq, e_bne, e_peq1, e_peq2, e_pne1, e_pne2, e_zeq1, e_zeq2, e_zne1, e_zne2, e_feq1, e_fne1, e_feq2, e_fne2, e_seq, e_sne, e_ta1, e_ta2, Nat.zero_add, Nat.add_zero, Bool.not_true, Bool.not_false]
  refine nw_r fun w2 r2 hb2 hz2 => ?_
  refine stn_r r2 rfl (Nat.le_of_ble_eq_true rfl) rfl fun w3 r3 hb3 hz3 => ?_
  replace r3 : Row w3 w1.heap.size 61 (ctrOf L a o.slot).cells := r3
  have hz1 := hk1.size
  have hz0 := hw.size
  have k3 : Kp (fun _ => False) w0 w3 := ((hw.trans hk1).trans hb2).then hb3 (by intro x hx (e : x = _); omega)
  unfold s5_p7 s5_p7_d
  have kd : Kp (fun _ => False) w0 (drw w3) := k3.trans kp_drw
  have hecls : o.cells[4]? = some (I c) := by show some (I o.cls) = _; rw [ec]
  simp only [e_fd, e_nck, e_pkt, e_pkf, e_gdtt, e_gdtf, e_gdft, e_gdff, e_ift, e_iff, e_not, e_ln, e_lnT, e_cp, e_cvi, e_ex20, e_ex21, e_ex30, e_ex31, e_ex32, e_add, e_sub, e_mul, e_quo, e_rem, e_and, e_or, e_xor, e_shl, e_shr, e_eql, e_neq, e_lss, e_leq, e_gtr, e_geq, e_beq, e_bne, e_peq1, e_peq2, e_pne1, e_pne2, e_zeq1, e_zeq2, e_zne1, e_zne2, e_feq1, e_fne1, e_feq2, e_fne2, e_seq, e_sne, e_ta1, e_ta2, Nat.zero_add, Nat.add_zero, Bool.not_true, Bool.not_false]
  refine ld1_r (kd.row' hr) rfl ?_
  refine ld1_r (kd.row' hr) hecls ?_
  refine ixa_r hc ?_
  refine ld1_r (kd.row' ra) (v := I ((pa a).q c)) (by
    match c, hc with
    | 0, _ => rfl
    | 1, _ => rfl
    | 2, _ => rfl) ?_
  refine ld1_r (kd.row' hr) hecls ?_
  refine ixa_r hc ?_
  refine ld1_r r3.drw (v := I (ent L a o.slot c)) (by
    match c, hc with
    | 0, _ => rfl
    | 1, _ => rfl
    | 2, _ => rfl) ?_
  simp only [e_fd, e_nck, e_pkt, e_pkf, e_gdtt, e_gdtf, e_gdft, e_gdff, e_ift, e_iff, e_not, e_ln, e_lnT, e_cp, e_cvi, e_ex20, e_ex21, e_ex30, e_ex31, e_ex32, e_add, e_sub, e_mul, e_quo, e_rem, e_and, e_or, e_xor, e_shl, e_shr, e_eql, e_neq, e_lss, e_leq, e_gtr, e_geq, e_beq, e_bne, e_peq1, e_peq2, e_pne1, e_pne2, e_zeq1, e_zeq2, e_zne1, e_zne2, e_feq1, e_fne1, e_feq2, e_fne2, e_seq, e_sne, e_ta1, e_ta2, Nat.zero_add, Nat.add_zero, Bool.not_true, Bool.not_false]
  rw [wrap64_id (by omega) (by omega)]
  unfold s5_p6
  by_cases hgt : (pa a).q c - ent L a o.slot c < o.n
  · simp only [hgt, decide_true, e_fd, e_nck, e_pkt, e_pkf, e_gdtt, e_gdtf, e_gdft, e_gdff, e_ift, e_iff, e_not, e_ln, e_lnT, e_cp, e_cvi, e_ex20, e_ex21, e_ex30, e_ex31, e_ex32, e_add, e_sub, e_mul, e_quo, e_rem, e_and, e_or, e_xor, e_shl, e_shr, e_eql, e_neq, e_lss, e_leq, e_gtr, e_geq, e_beq, e_bne, e_peq1, e_peq2, e_pne1, e_pne2, e_zeq1, e_zeq2, e_zne1, e_zne2, e_feq1, e_fne1, e_feq2, e_fne2, e_seq, e_sne, e_ta1, e_ta2, Nat.zero_add, Nat.add_zero, Bool.not_true, Bool.not_false]
    refine adm_end h rv hV hcs hr hin hlo hlt hL' ?_ kd hK
    rw [hmf]
    simp [hgt]
  · simp only [hgt, decide_false, e_fd, e_nck, e_pkt, e_pkf, e_gdtt, e_gdtf, e_gdft, e_gdff, e_ift, e_iff, e_not, e_ln, e_lnT, e_cp, e_cvi, e_ex20, e_ex21, e_ex30, e_ex31, e_ex32, e_add, e_sub, e_mul, e_quo, e_rem, e_and, e_or, e_xor, e_shl, e_shr, e_eql, e_neq, e_lss, e_leq, e_gtr, e_geq, e_beq, e_bne, e_peq1, e_peq2, e_pne1, e_pne2, e_zeq1, e_zeq2, e_zne1, e_zne2, e_feq1, e_fne1, e_feq2, e_fne2, e_seq, e_sne, e_ta1, e_ta2, Nat.zero_add, Nat.add_zero, Bool.not_true, Bool.not_false]
    refine adm_end h rv hV hcs hr hin hlo hlt hL' ?_ kd hK
    rw [hmf, hf]
    simp [hgt]

/-- the dwell interval -/
theorem adm_loop {a c c10 : Nat} (h : St W w0 d tb now ts L') (rv : Row w0 vb 43 [.bool true, I now, fv, sv]) (hV : VP w0 fob fv sob sv (vwOf now L).first its lo) (hcs : (vwOf now L).slots = its.map (·.cs)) (hr : Row w0 b 34 o.cells) (hin : Inv now L)
    (ra : Row w0 c10 59 (pa a).cells) (ea : o.attr = (a : Int)) (ec : o.cls = (c : Int)) (hck : chkP now o.attr o.slot o.cls o.n 0 = 0) (ho : o.Wf)
    (hlo : W.heap.size ≤ lo) (hlt : ∀ k, k = d ∨ k = tb ∨ k ∈ blks ts → k < lo)
    (hL' : L' = if mFits now L o.attr o.slot o.cls o.n = 0 then L ++ [⟨o.attr.toNat, o.slot, o.cls.toNat, o.n⟩] else L) (hw : Kp (fun _ => False) w0 w)
    (hK : ∀ w', St W w' d tb now ts L' → s5_p2 K B1 (ptr d) v ln ii w') : s5_p12 K B1 (ptr d) (ptr b) (ptr vb) (I (mFits now L o.attr o.slot o.cls o.n)) (.bool true) (ptr c10) v ln ii w := by
  have hk := chkP_iff.1 hck
  have n0 := hin.n0
  have n1 := hin.n1
  have hb := pa_bd a
  have hdw : (pa a).dwell = dw a := rfl
  have ha : a < 4 := by omega
  have hrl : (rlen a : Int) = 6 + 2 * (dw a - 1) := by unfold rlen; omega
  have hea : o.cells[1]? = some (I a) := by show some (I o.attr) = _; rw [ea]
  unfold s5_p12 ptr
  simp only [e_fd, e_nck, e_pkt, e_pkf, e_gdtt, e_gdtf, e_gdft, e_gdff, e_ift, e_iff, e_not, e_ln, e_lnT, e_cp, e_cvi, e_ex20, e_ex21, e_ex30, e_ex31, e_ex32, e_add, e_sub, e_mul, e_quo, e_rem, e_and, e_or, e_xor, e_shl, e_shr, e_eql, e_neq, e_lss, e_leq, e_gtr, e_geq, e_beq, e_bne, e_peq1, e_peq2, e_pne1, e_pne2, e_zeq1, e_zeq2, e_zne1, e_zne2, e_feq1, e_fne1, e_feq2, e_fne2, e_seq, e_sne, e_ta1, e_ta2, Nat.zero_add, Nat.add_zero, Bool.not_true, Bool.not_false]
  refine ld1_r (hw.row' hr) rfl ?_
  refine ⟨fun m l w => ∃ (u : Int) (f : Bool), o.slot ≤ u ∧ u ≤ o.slot + dw a ∧ m = (o.slot + dw a - u).toNat ∧ (f = true ↔ ∀ x, o.slot ≤ x → x < u → ins L a (dw a) x ≤ (pa a).cap - o.n) ∧ Kp (fun _ => False) w0 w ∧
      l = [ptr d, ptr b, ptr vb, I (mFits now L o.attr o.slot o.cls o.n), .bool f, ptr c10, I u, v, ln, ii],
    (dw a).toNat, ⟨o.slot, true, by omega, by omega, by omega, by simp; intro x h1 h2; omega, hw, rfl⟩, ?_⟩
  rintro m l w ⟨u, f, u0, u1, hm, hf, hw, rfl⟩
  rw [s5_p11_Fe]
  unfold s5_p10 ptr
  simp only [e_fd, e_nck, e_pkt, e_pkf, e_gdtt, e_gdtf, e_gdft, e_gdff, e_ift, e_iff, e_not, e_ln, e_lnT, e_cp, e_cvi, e_ex20, e_ex21, e_ex30, e_ex31, e_ex32, e_add, e_sub, e_mul, e_quo, e_rem, e_and, e_or, e_xor, e_shl, e_shr, e_eql, e_neq, e_lss, e_leq, e_gtr, e_geq, e_beq, e_bne, e_peq1, e_peq2, e_pne1, e_pne2, e_zeq1, e_zeq2, e_zne1, e_zne2, e_feq1, e_fne1, e_feq2, e_fne2, e_seq, e_sne, e_ta1, e_ta2, Nat.zero_add, Nat.add_zero, Bool.not_true, Bool.not_false]
  refine ld1_r (hw.row' hr) rfl ?_
  refine ld1_r (hw.row' ra) (v := I (dw a)) rfl ?_
  simp only [e_fd, e_nck, e_pkt, e_pkf, e_gdtt, e_gdtf, e_gdft, e_gdff, e_ift, e_iff, e_not, e_ln, e_lnT, e_cp, e_cvi, e_ex20, e_ex21, e_ex30, e_ex31, e_ex32, e_add, e_sub, e_mul, e_quo, e_rem, e_and, e_or, e_xor, e_shl, e_shr, e_eql, e_neq, e_lss, e_leq, e_gtr, e_geq, e_beq, e_bne, e_peq1, e_peq2, e_pne1, e_pne2, e_zeq1, e_zeq2, e_zne1, e_zne2, e_feq1, e_fne1, e_feq2, e_fne2, e_seq, e_sne, e_ta1, e_ta2, Nat.zero_add, Nat.add_zero, Bool.not_true, Bool.not_false]
  rw [wrap64_id (by omega) (by omega)]
  by_cases hlu : u < o.slot + dw a
  · simp only [hlu, decide_true, e_fd, e_nck, e_pkt, e_pkf, e_gdtt, e_gdtf, e_gdft, e_gdff, e_ift, e_iff, e_not, e_ln, e_lnT, e_cp, e_cvi, e_ex20, e_ex21, e_ex30, e_ex31, e_ex32, e_add, e_sub, e_mul, e_quo, e_rem, e_and, e_or, e_xor, e_shl, e_shr, e_eql, e_neq, e_lss, e_leq, e_gtr, e_geq, e_beq, e_bne, e_peq1, e_peq2, e_pne1, e_pne2, e_zeq1, e_zeq2, e_zne1, e_zne2, e_feq1, e_fne1, e_feq2, e_fne2, e_seq, e_sne, e_ta1, e_ta2, Nat.zero_add, Nat.add_zero, Bool.not_true, Bool.not_false]
    refine ldn_r (hw.row' rv) (Nat.le_of_ble_eq_true rfl) ?_
    refine ld1_r (hw.row' hr) hea ?_
    refine at_ok (hV.kp hw) hcs n0 n1 ha ⟨by omega, by omega⟩ fun w1 hk1 => ?_
    have hseen : seen now a u := ⟨by unfold fst1; omega, by unfold fst1; omega⟩
    have eat : atC now L a u = ctrOf L a u := by unfold atC; rw [if_pos hseen]
    rw [eat, decide_eq_true hseen]
    simp only [e_fd, e_nck, e_pkt, e_pkf, e_gdtt, e_gdtf, e_gdft, e_gdff, e_ift, e_iff, e_not, e_ln, e_lnT, e_cp, e_cvi, e_ex20, e_ex21, e_ex30, e_ex31, e_ex32, e_add, e_sub, e_mul, e_quo, e_rem, e_and, e_or, e_xor, e_shl, e_shr, e_eql, e_neq, e_lss, e_leq, e_gtr, e_geq, e_beq, e_bne, e_peq1, e_peq2, e_pne1, e_pne2, e_zeq1, e_zeq2, e_zne1, e_zne2, e_feq1, e_fne1, e_feq2, e_fne2, e_seq, e_sne, e_ta1, e_ta2, Nat.zero_add, Nat.add_zero, Bool.not_true, Bool.not_false]
    refine nw_r fun w2 r2 hb2 hz2 => ?_
    refine stn_r r2 rfl (Nat.le_of_ble_eq_true rfl) rfl fun w3 r3 hb3 hz3 => ?_
    replace r3 : Row w3 w1.heap.size 61 (ctrOf L a u).cells := r3
    have hz1 := hk1.size
    have hz0 := hw.size
    have k3 : Kp (fun _ => False) w0 w3 := ((hw.trans hk1).trans hb2).then hb3 (by intro x hx (e : x = _); omega)
    have hii := hin.ii a u
    simp only [e_fd, e_nck, e_pkt, e_pkf, e_gdtt, e_gdtf, e_gdft, e_gdff, e_ift, e_iff, e_not, e_ln, e_lnT, e_cp, e_cvi, e_ex20, e_ex21, e_ex30, e_ex31, e_ex32, e_add, e_sub, e_mul, e_quo, e_rem, e_and, e_or, e_xor, e_shl, e_shr, e_eql, e_neq, e_lss, e_leq, e_gtr, e_geq, e_beq, e_bne, e_peq1, e_peq2, e_pne1, e_pne2, e_zeq1, e_zeq2, e_zne1, e_zne2, e_feq1, e_fne1, e_feq2, e_fne2, e_seq, e_sne, e_ta1, e_ta2, Nat.zero_add, Nat.add_zero, Bool.not_true, Bool.not_false, Bool.not_true]
    refine ld1_r (k3.row' hr) rfl ?_
    refine ld1_r (k3.row' ra) rfl ?_
    refine ld1_r r3 (v := I (ins L a (dw a) u)) rfl ?_
    simp only [e_fd, e_nck, e_pkt, e_pkf, e_gdtt, e_gdtf, e_gdft, e_gdff, e_ift, e_iff, e_not, e_ln, e_lnT, e_cp, e_cvi, e_ex20, e_ex21, e_ex30, e_ex31, e_ex32, e_add, e_sub, e_mul, e_quo, e_rem, e_and, e_or, e_xor, e_shl, e_shr, e_eql, e_neq, e_lss, e_leq, e_gtr, e_geq, e_beq, e_bne, e_peq1, e_peq2, e_pne1, e_pne2, e_zeq1, e_zeq2, e_zne1, e_zne2, e_feq1, e_fne1, e_feq2, e_fne2, e_seq, e_sne, e_ta1, e_ta2, Nat.zero_add, Nat.add_zero, Bool.not_true, Bool.not_false]
    rw [wrap64_id (by omega) (by omega)]
    have next : ∀ f' : Bool, (f' = true ↔ f = true ∧ ins L a (dw a) u ≤ (pa a).cap - o.n) → s5_p9 K B1 (fun l' w' => ∃ m', m' < m ∧ ∃ (u : Int) (f : Bool), o.slot ≤ u ∧ u ≤ o.slot + dw a ∧ m' = (o.slot + dw a - u).toNat ∧ (f = true ↔ ∀ x, o.slot ≤ x → x < u → ins L a (dw a) x ≤ (pa a).cap - o.n) ∧ Kp (fun _ => False) w0 w' ∧
        l' = [ptr d, ptr b, ptr vb, I (mFits now L o.attr o.slot o.cls o.n), .bool f, ptr c10, I u, v, ln, ii]) (ptr d) (ptr b) (ptr vb) (I (mFits now L o.attr o.slot o.cls o.n)) (.bool f') (ptr c10) (I u) v ln ii w3 := by
      intro f' hf'
      unfold s5_p9
      simp only [e_fd, e_nck, e_pkt, e_pkf, e_gdtt, e_gdtf, e_gdft, e_gdff, e_ift, e_iff, e_not, e_ln, e_lnT, e_cp, e_cvi, e_ex20, e_ex21, e_ex30, e_ex31, e_ex32, e_add, e_sub, e_mul, e_quo, e_rem, e_and, e_or, e_xor, e_shl, e_shr, e_eql, e_neq, e_lss, e_leq, e_gtr, e_geq, e_beq, e_bne, e_peq1, e_peq2, e_pne1, e_pne2, e_zeq1, e_zeq2, e_zne1, e_zne2, e_feq1, e_fne1, e_feq2, e_fne2, e_seq, e_sne, e_ta1, e_ta2, Nat.zero_add, Nat.add_zero, Bool.not_true, Bool.not_false]
      rw [wrap64_id (by omega) (by omega)]
      refine ⟨(o.slot + dw a - (u + 1)).toNat, by omega, u + 1, f', by omega, by omega, rfl, ?_, k3, rfl⟩
      rw [hf', hf]
      constructor
      · intro ⟨h1, h2⟩ x x0 x1
        by_cases e : x = u
        · rw [e]; exact h2
        · exact h1 x x0 (by omega)
      · intro h1
        exact ⟨fun x x0 x1 => h1 x x0 (by omega), h1 u u0 (by omega)⟩
    by_cases hgt : (pa a).cap - ins L a (dw a) u < o.n
    · simp only [hgt, decide_true, e_fd, e_nck, e_pkt, e_pkf, e_gdtt, e_gdtf, e_gdft, e_gdff, e_ift, e_iff, e_not, e_ln, e_lnT, e_cp, e_cvi, e_ex20, e_ex21, e_ex30, e_ex31, e_ex32, e_add, e_sub, e_mul, e_quo, e_rem, e_and, e_or, e_xor, e_shl, e_shr, e_eql, e_neq, e_lss, e_leq, e_gtr, e_geq, e_beq, e_bne, e_peq1, e_peq2, e_pne1, e_pne2, e_zeq1, e_zeq2, e_zne1, e_zne2, e_feq1, e_fne1, e_feq2, e_fne2, e_seq, e_sne, e_ta1, e_ta2, Nat.zero_add, Nat.add_zero, Bool.not_true, Bool.not_false]
      exact next false (by simp; intro _; omega)
    · simp only [hgt, decide_false, e_fd, e_nck, e_pkt, e_pkf, e_gdtt, e_gdtf, e_gdft, e_gdff, e_ift, e_iff, e_not, e_ln, e_lnT, e_cp, e_cvi, e_ex20, e_ex21, e_ex30, e_ex31, e_ex32, e_add, e_sub, e_mul, e_quo, e_rem, e_and, e_or, e_xor, e_shl, e_shr, e_eql, e_neq, e_lss, e_leq, e_gtr, e_geq, e_beq, e_bne, e_peq1, e_peq2, e_pne1, e_pne2, e_zeq1, e_zeq2, e_zne1, e_zne2, e_feq1, e_fne1, e_feq2, e_fne2, e_seq, e_sne, e_ta1, e_ta2, Nat.zero_add, Nat.add_zero, Bool.not_true, Bool.not_false]
      exact next f (by
        constructor
        · intro e; exact ⟨e, by omega⟩
        · intro e; exact e.1)
  · simp only [hlu, decide_false, e_fd, e_nck, e_pkt, e_pkf, e_gdtt, e_gdtf, e_gdft, e_gdff, e_ift, e_iff, e_not, e_ln, e_lnT, e_cp, e_cvi, e_ex20, e_ex21, e_ex30, e_ex31, e_ex32, e_add, e_sub, e_mul, e_quo, e_rem, e_and, e_or, e_xor, e_shl, e_shr, e_eql, e_neq, e_lss, e_leq, e_gtr, e_geq, e_beq, e_bne, e_peq1, e_peq2, e_pne1, e_pne2, e_zeq1, e_zeq2, e_zne1, e_zne2, e_feq1, e_fne1, e_feq2, e_fne2, e_seq, e_sne, e_ta1, e_ta2, Nat.zero_add, Nat.add_zero, Bool.not_true, Bool.not_false]
    have : u = o.slot + dw a := by omega
    subst this
    exact adm_quota h rv hV hcs hr hin ra ea ec hck ho hlo hlt hL' hf hw hK
end
end Go.Proofs.Qxb6500897a
