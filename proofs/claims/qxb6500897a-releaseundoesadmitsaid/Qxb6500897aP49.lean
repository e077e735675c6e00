import Derived.Test.Qxb6500897aP48
namespace Go.Proofs.Qxb6500897a
open Go.Sh Go.RowKit
set_option linter.unusedVariables false
set_option linter.unusedSimpArgs false

section
variable {W w0 w : World} {d tb b : Nat} {now : Int} {ts : List Tab} {L L' : List Ent} {o : Op} {K : Value → World → Prop} {B1 : List Value → World → Prop} {v ln ii : Value}
  {fob : Option Nat} {fv : Value} {sob : Option Nat} {sv : Value} {its : List It} {lo vb : Nat}

/-- a release -/
theorem rel_step (h : St W w0 d tb now ts L') (rv : Row w0 vb 43 [.bool true, I now, fv, sv]) (hV : VP w0 fob fv sob sv (vwOf now L).first its lo) (hcs : (vwOf now L).slots = its.map (·.cs)) (hr : Row w0 b 34 o.cells) (hin : Inv now L) (ho : o.Wf) (k1 : o.kind = 1)
    (hlo : W.heap.size ≤ lo) (hlt : ∀ k, k = d ∨ k = tb ∨ k ∈ blks ts → k < lo)
    (hL' : L' = if mRel now L o.attr o.slot o.cls o.n = 0 then L ++ [⟨o.attr.toNat, o.slot, o.cls.toNat, -o.n⟩] else L)
    (hK : ∀ w', St W w' d tb now ts L' → s6_p2 K B1 (ptr d) v ln ii w') : s6_p13 K B1 (ptr d) (ptr b) (ptr vb) (I (mRel now L o.attr o.slot o.cls o.n)) v ln ii w0 := by
  obtain ⟨hil, hrows⟩ := its_row hcs
  have n0 := hin.n0
  have n1 := hin.n1
  have e1 : (o.kind != 1) = false := by simpa using k1
  unfold s6_p13 ptr
  simp only [e_fd, e_nck, e_pkt, e_pkf, e_gdtt, e_gdtf, e_gdft, e_gdff, e_ift, e_iff, e_not, e_ln, e_lnT, e_cp, e_cvi, e_ex20, e_ex21, e_ex30, e_ex31, e_ex32, e_add, e_sub, e_mul, e_quo, e_rem, e_and, e_or, e_xor, e_shl, e_shr, e_eql, e_neq, e_lss, e_leq, e_gtr, e_geq, e_beq, e_bne, e_peq1, e_peq2, e_pne1, e_pne2, e_zeq1, e_zeq2, e_zne1, e_zne2, e_feq1, e_fne1, e_feq2, e_fne2, e_seq, e_sne, e_ta1, e_ta2, Nat.zero_add, Nat.add_zero, Bool.not_true, Bool.not_false]
  refine ld1_r hr rfl ?_
  simp only [e1, e_fd, e_nck, e_pkt, e_pkf, e_gdtt, e_gdtf, e_gdft, e_gdff, e_ift, e_iff, e_not, e_ln, e_lnT, e_cp, e_cvi, e_ex20, e_ex21, e_ex30, e_ex31, e_ex32, e_add, e_sub, e_mul, e_quo, e_rem, e_and, e_or, e_xor, e_shl, e_shr, e_eql, e_neq, e_lss, e_leq, e_gtr, e_geq, e_beq, e_bne, e_peq1, e_peq2, e_pne1, e_pne2, e_zeq1, e_zeq2, e_zne1, e_zne2, e_feq1, e_fne1, e_feq2, e_fne2, e_seq, e_sne, e_ta1, e_ta2, Nat.zero_add, Nat.add_zero, Bool.not_true, Bool.not_false]
  apply bdq_r rfl
  refine nw_r fun w1 r1 hb1 hz1 => ?_
  refine stn_r r1 rfl (Nat.le_of_ble_eq_true rfl) rfl fun w2 r2 hb2 hz2 => ?_
  replace r2 : Row w2 w0.heap.size 61 (⟨0, 0, 0, 0⟩ : Ctr).cells := r2
  have k2 : Kp (fun _ => False) w0 w2 := hb1.then hb2 (by intro x hx (e : x = _); omega)
  have h2 := h.kp k2
  have hV2 := hV.kp k2
  have rv2 := k2.row' rv
  have hr2 := k2.row' hr
  -- the arguments are bad
  have no : ¬ (0 ≤ o.attr ∧ o.attr < 4 ∧ 0 ≤ o.cls ∧ o.cls < 3 ∧ 1 ≤ o.n) → s6_p12 K B1 (ptr d) (ptr b) (ptr vb) (I (mRel now L o.attr o.slot o.cls o.n)) (ptr w0.heap.size) (.bool false) v ln ii (.bool false) w2 := by
    intro hno
    unfold s6_p12
    simp only [e_fd, e_nck, e_pkt, e_pkf, e_gdtt, e_gdtf, e_gdft, e_gdff, e_ift, e_iff, e_not, e_ln, e_lnT, e_cp, e_cvi, e_ex20, e_ex21, e_ex30, e_ex31, e_ex32, e_add, e_sub, e_mul, e_quo, e_rem, e_and, e_or, e_xor, e_shl, e_shr, e_eql, e_neq, e_lss, e_leq, e_gtr, e_geq, e_beq, e_bne, e_peq1, e_peq2, e_pne1, e_pne2, e_zeq1, e_zeq2, e_zne1, e_zne2, e_feq1, e_fne1, e_feq2, e_fne2, e_seq, e_sne, e_ta1, e_ta2, Nat.zero_add, Nat.add_zero, Bool.not_true, Bool.not_false]
    refine rel_end h2 rv2 hV2 hcs hr2 hin r2 (kept := false) ?_ (by simp) hlo hlt hL' (Kp.refl _ _) hK
    constructor
    · simp
    · intro e
      have := chkP1_iff.1 e
      omega
  unfold ptr at no
  try simp only [e_fd, e_nck, e_pkt, e_pkf, e_gdtt, e_gdtf, e_gdft, e_gdff, e_ift, e_iff, e_not, e_ln, e_lnT, e_cp, e_cvi, e_ex20, e_ex21, e_ex30, e_ex31, e_ex32, e_add, e_sub, e_mul, e_quo, e_rem, e_and, e_or, e_xor, e_shl, e_shr, e_eql, e_neq, e_lss, e_leq, e_gtr, e_geq, e_beq, e_bne, e_peq1, e_peq2, e_pne1, e_pne2, e_zeq1, e_zeq2, e_zne1, e_zne2, e_feq1, e_fne1, e_feq2, e_fne2, e_seq, e_sne, e_ta1, e_ta2, Nat.zero_add, Nat.add_zero, Bool.not_true, Bool.not_false]
  refine ld1_r hr2 rfl ?_
  simp only [e_fd, e_nck, e_pkt, e_pkf, e_gdtt, e_gdtf, e_gdft, e_gdff, e_ift, e_iff, e_not, e_ln, e_lnT, e_cp, e_cvi, e_ex20, e_ex21, e_ex30, e_ex31, e_ex32, e_add, e_sub, e_mul, e_quo, e_rem, e_and, e_or, e_xor, e_shl, e_shr, e_eql, e_neq, e_lss, e_leq, e_gtr, e_geq, e_beq, e_bne, e_peq1, e_peq2, e_pne1, e_pne2, e_zeq1, e_zeq2, e_zne1, e_zne2, e_feq1, e_fne1, e_feq2, e_fne2, e_seq, e_sne, e_ta1, e_ta2, Nat.zero_add, Nat.add_zero, Bool.not_true, Bool.not_false]
  by_cases c1 : 0 ≤ o.attr
  · simp only [c1, decide_true, e_fd, e_nck, e_pkt, e_pkf, e_gdtt, e_gdtf, e_gdft, e_gdff, e_ift, e_iff, e_not, e_ln, e_lnT, e_cp, e_cvi, e_ex20, e_ex21, e_ex30, e_ex31, e_ex32, e_add, e_sub, e_mul, e_quo, e_rem, e_and, e_or, e_xor, e_shl, e_shr, e_eql, e_neq, e_lss, e_leq, e_gtr, e_geq, e_beq, e_bne, e_peq1, e_peq2, e_pne1, e_pne2, e_zeq1, e_zeq2, e_zne1, e_zne2, e_feq1, e_fne1, e_feq2, e_fne2, e_seq, e_sne, e_ta1, e_ta2, Nat.zero_add, Nat.add_zero, Bool.not_true, Bool.not_false]
    refine ld1_r hr2 rfl ?_
    refine ld1_r rv2 rfl ?_
    refine hV2.s.ln ?_
    rw [hil]
    simp only [e_fd, e_nck, e_pkt, e_pkf, e_gdtt, e_gdtf, e_gdft, e_gdff, e_ift, e_iff, e_not, e_ln, e_lnT, e_cp, e_cvi, e_ex20, e_ex21, e_ex30, e_ex31, e_ex32, e_add, e_sub, e_mul, e_quo, e_rem, e_and, e_or, e_xor, e_shl, e_shr, e_eql, e_neq, e_lss, e_leq, e_gtr, e_geq, e_beq, e_bne, e_peq1, e_peq2, e_pne1, e_pne2, e_zeq1, e_zeq2, e_zne1, e_zne2, e_feq1, e_fne1, e_feq2, e_fne2, e_seq, e_sne, e_ta1, e_ta2, Nat.zero_add, Nat.add_zero, Bool.not_true, Bool.not_false]
    by_cases c2 : o.attr < ((4 : Nat) : Int)
    · simp only [c2, decide_true, e_fd, e_nck, e_pkt, e_pkf, e_gdtt, e_gdtf, e_gdft, e_gdff, e_ift, e_iff, e_not, e_ln, e_lnT, e_cp, e_cvi, e_ex20, e_ex21, e_ex30, e_ex31, e_ex32, e_add, e_sub, e_mul, e_quo, e_rem, e_and, e_or, e_xor, e_shl, e_shr, e_eql, e_neq, e_lss, e_leq, e_gtr, e_geq, e_beq, e_bne, e_peq1, e_peq2, e_pne1, e_pne2, e_zeq1, e_zeq2, e_zne1, e_zne2, e_feq1, e_fne1, e_feq2, e_fne2, e_seq, e_sne, e_ta1, e_ta2, Nat.zero_add, Nat.add_zero, Bool.not_true, Bool.not_false]
      refine ld1_r hr2 rfl ?_
      simp only [e_fd, e_nck, e_pkt, e_pkf, e_gdtt, e_gdtf, e_gdft, e_gdff, e_ift, e_iff, e_not, e_ln, e_lnT, e_cp, e_cvi, e_ex20, e_ex21, e_ex30, e_ex31, e_ex32, e_add, e_sub, e_mul, e_quo, e_rem, e_and, e_or, e_xor, e_shl, e_shr, e_eql, e_neq, e_lss, e_leq, e_gtr, e_geq, e_beq, e_bne, e_peq1, e_peq2, e_pne1, e_pne2, e_zeq1, e_zeq2, e_zne1, e_zne2, e_feq1, e_fne1, e_feq2, e_fne2, e_seq, e_sne, e_ta1, e_ta2, Nat.zero_add, Nat.add_zero, Bool.not_true, Bool.not_false]
      by_cases c3 : 0 ≤ o.cls
      · simp only [c3, decide_true, e_fd, e_nck, e_pkt, e_pkf, e_gdtt, e_gdtf, e_gdft, e_gdff, e_ift, e_iff, e_not, e_ln, e_lnT, e_cp, e_cvi, e_ex20, e_ex21, e_ex30, e_ex31, e_ex32, e_add, e_sub, e_mul, e_quo, e_rem, e_and, e_or, e_xor, e_shl, e_shr, e_eql, e_neq, e_lss, e_leq, e_gtr, e_geq, e_beq, e_bne, e_peq1, e_peq2, e_pne1, e_pne2, e_zeq1, e_zeq2, e_zne1, e_zne2, e_feq1, e_fne1, e_feq2, e_fne2, e_seq, e_sne, e_ta1, e_ta2, Nat.zero_add, Nat.add_zero, Bool.not_true, Bool.not_false]
        refine ld1_r hr2 rfl ?_
        simp only [e_fd, e_nck, e_pkt, e_pkf, e_gdtt, e_gdtf, e_gdft, e_gdff, e_ift, e_iff, e_not, e_ln, e_lnT, e_cp, e_cvi, e_ex20, e_ex21, e_ex30, e_ex31, e_ex32, e_add, e_sub, e_mul, e_quo, e_rem, e_and, e_or, e_xor, e_shl, e_shr, e_eql, e_neq, e_lss, e_leq, e_gtr, e_geq, e_beq, e_bne, e_peq1, e_peq2, e_pne1, e_pne2, e_zeq1, e_zeq2, e_zne1, e_zne2, e_feq1, e_fne1, e_feq2, e_fne2, e_seq, e_sne, e_ta1, e_ta2, Nat.zero_add, Nat.add_zero, Bool.not_true, Bool.not_false]
        by_cases c4 : o.cls < 3
        · simp only [c4, decide_true, e_fd, e_nck, e_pkt, e_pkf, e_gdtt, e_gdtf, e_gdft, e_gdff, e_ift, e_iff, e_not, e_ln, e_lnT, e_cp, e_cvi, e_ex20, e_ex21, e_ex30, e_ex31, e_ex32, e_add, e_sub, e_mul, e_quo, e_rem, e_and, e_or, e_xor, e_shl, e_shr, e_eql, e_neq, e_lss, e_leq, e_gtr, e_geq, e_beq, e_bne, e_peq1, e_peq2, e_pne1, e_pne2, e_zeq1, e_zeq2, e_zne1, e_zne2, e_feq1, e_fne1, e_feq2, e_fne2, e_seq, e_sne, e_ta1, e_ta2, Nat.zero_add, Nat.add_zero, Bool.not_true, Bool.not_false]
          refine ld1_r hr2 rfl ?_
          simp only [e_fd, e_nck, e_pkt, e_pkf, e_gdtt, e_gdtf, e_gdft, e_gdff, e_ift, e_iff, e_not, e_ln, e_lnT, e_cp, e_cvi, e_ex20, e_ex21, e_ex30, e_ex31, e_ex32, e_add, e_sub, e_mul, e_quo, e_rem, e_and, e_or, e_xor, e_shl, e_shr, e_eql, e_neq, e_lss, e_leq, e_gtr, e_geq, e_beq, e_bne, e_peq1, e_peq2, e_pne1, e_pne2, e_zeq1, e_zeq2, e_zne1, e_zne2, e_feq1, e_fne1, e_feq2, e_fne2, e_seq, e_sne, e_ta1, e_ta2, Nat.zero_add, Nat.add_zero, Bool.not_true, Bool.not_false]
          by_cases c5 : 1 ≤ o.n
          · simp only [c5, decide_true, e_fd, e_nck, e_pkt, e_pkf, e_gdtt, e_gdtf, e_gdft, e_gdff, e_ift, e_iff, e_not, e_ln, e_lnT, e_cp, e_cvi, e_ex20, e_ex21, e_ex30, e_ex31, e_ex32, e_add, e_sub, e_mul, e_quo, e_rem, e_and, e_or, e_xor, e_shl, e_shr, e_eql, e_neq, e_lss, e_leq, e_gtr, e_geq, e_beq, e_bne, e_peq1, e_peq2, e_pne1, e_pne2, e_zeq1, e_zeq2, e_zne1, e_zne2, e_feq1, e_fne1, e_feq2, e_fne2, e_seq, e_sne, e_ta1, e_ta2, Nat.zero_add, Nat.add_zero, Bool.not_true, Bool.not_false]
            unfold s6_p12
            simp only [e_fd, e_nck, e_pkt, e_pkf, e_gdtt, e_gdtf, e_gdft, e_gdff, e_ift, e_iff, e_not, e_ln, e_lnT, e_cp, e_cvi, e_ex20, e_ex21, e_ex30, e_ex31, e_ex32, e_add, e_sub, e_mul, e_quo, e_rem, e_and, e_or, e_xor, e_shl, e_shr, e_eql, e_neq, e_lss, e_leq, e_gtr, e_geq, e_beq, e_bne, e_peq1, e_peq2, e_pne1, e_pne2, e_zeq1, e_zeq2, e_zne1, e_zne2, e_feq1, e_fne1, e_feq2, e_fne2, e_seq, e_sne, e_ta1, e_ta2, Nat.zero_add, Nat.add_zero, Bool.not_true, Bool.not_false]
            unfold s6_p11
            simp only [e_fd, e_nck, e_pkt, e_pkf, e_gdtt, e_gdtf, e_gdft, e_gdff, e_ift, e_iff, e_not, e_ln, e_lnT, e_cp, e_cvi, e_ex20, e_ex21, e_ex30, e_ex31, e_ex32, e_add, e_sub, e_mul, e_quo, e_rem, e_and, e_or, e_xor, e_shl, e_shr, e_eql, e_neq, e_lss, e_leq, e_gtr, e_geq, e_beq, e_bne, e_peq1, e_peq2, e_pne1, e_pne2, e_zeq1, e_zeq2, e_zne1, e_zne2, e_feq1, e_fne1, e_feq2, e_fne2, e_seq, e_sne, e_ta1, e_ta2, Nat.zero_add, Nat.add_zero, Bool.not_true, Bool.not_false]
            obtain ⟨a, ea⟩ : ∃ a : Nat, o.attr = (a : Int) := ⟨o.attr.toNat, by omega⟩
            have ha : a < 4 := by omega
            have hea : o.cells[1]? = some (I a) := by show some (I o.attr) = _; rw [ea]
            have ean : o.attr.toNat = a := by omega
            have hdw : (pa a).dwell = dw a := rfl
            have hb := pa_bd a
            have hrl : (rlen a : Int) = 6 + 2 * (dw a - 1) := by unfold rlen; omega
            refine ldn_r rv2 (Nat.le_of_ble_eq_true rfl) ?_
            refine ld1_r hr2 hea ?_
            refine ld1_r hr2 rfl ?_
            refine at_ok hV2 hcs n0 n1 ha ho.slot fun w3 hk3 => ?_
            simp only [e_fd, e_nck, e_pkt, e_pkf, e_gdtt, e_gdtf, e_gdft, e_gdff, e_ift, e_iff, e_not, e_ln, e_lnT, e_cp, e_cvi, e_ex20, e_ex21, e_ex30, e_ex31, e_ex32, e_add, e_sub, e_mul, e_quo, e_rem, e_and, e_or, e_xor, e_shl, e_shr, e_eql, e_neq, e_lss, e_leq, e_gtr, e_geq, e_beq, e_bne, e_peq1, e_peq2, e_pne1, e_pne2, e_zeq1, e_zeq2, e_zne1, e_zne2, e_feq1, e_fne1, e_feq2, e_fne2, e_seq, e_sne, e_ta1, e_ta2, Nat.zero_add, Nat.add_zero, Bool.not_true, Bool.not_false]
            refine stn_r (hk3.row' r2) rfl (Nat.le_of_ble_eq_true rfl) rfl fun w4 r4 hb4 hz4 => ?_
            replace r4 : Row w4 w0.heap.size 61 (atC now L a o.slot).cells := r4
            have hz3 := hk3.size
            have k4 : Kp (fun _ => False) w0 w4 := (k2.trans hk3).then hb4 (by intro x hx (e : x = _); omega)
            refine rel_kept n0 n1 (k4.row' hr) (k4.row' rv) fun w5 hk5 => ?_
            have k5 := k4.trans hk5
            refine rel_end (cc := atC now L a o.slot) (h.kp k5) (k5.row' rv) (hV.kp k5) hcs (k5.row' hr) hin (hk5.row' r4) ?_ ?_ hlo hlt hL' (Kp.refl _ _) hK
            · rw [chkP1_iff, ean]
              simp only [Bool.and_eq_true, decide_eq_true_eq]
              unfold seen fst1
              omega
            · intro hkept
              simp only [Bool.and_eq_true, decide_eq_true_eq] at hkept
              rw [ean]
              unfold atC
              rw [if_pos hkept.1]
          · simp only [c5, decide_false, e_fd, e_nck, e_pkt, e_pkf, e_gdtt, e_gdtf, e_gdft, e_gdff, e_ift, e_iff, e_not, e_ln, e_lnT, e_cp, e_cvi, e_ex20, e_ex21, e_ex30, e_ex31, e_ex32, e_add, e_sub, e_mul, e_quo, e_rem, e_and, e_or, e_xor, e_shl, e_shr, e_eql, e_neq, e_lss, e_leq, e_gtr, e_geq, e_beq, e_bne, e_peq1, e_peq2, e_pne1, e_pne2, e_zeq1, e_zeq2, e_zne1, e_zne2, e_feq1, e_fne1, e_feq2, e_fne2, e_seq, e_sne, e_ta1, e_ta2, Nat.zero_add, Nat.add_zero, Bool.not_true, Bool.not_false]
            exact no (by omega)
        · simp only [c4, decide_false, e_fd, e_nck, e_pkt, e_pkf, e_gdtt, e_gdtf, e_gdft, e_gdff, e_ift, e_iff, e_not, e_ln, e_lnT, e_cp, e_cvi, e_ex20, e_ex21, e_ex30, e_ex31, e_ex32, e_add, e_sub, e_mul, e_quo, e_rem, e_and, e_or, e_xor, e_shl, e_shr, e_eql, e_neq, e_lss, e_leq, e_gtr, e_geq, e_beq, e_bne, e_peq1, e_peq2, e_pne1, e_pne2, e_zeq1, e_zeq2, e_zne1, e_zne2, e_feq1, e_fne1, e_feq2, e_fne2, e_seq, e_sne, e_ta1, e_ta2, Nat.zero_add, Nat.add_zero, Bool.not_true, Bool.not_false]
          exact no (by omega)
      · simp only [c3, decide_false, e_fd, e_nck, e_pkt, e_pkf, e_gdtt, e_gdtf, e_gdft, e_gdff, e_ift, e_iff, e_not, e_ln, e_lnT, e_cp, e_cvi, e_ex20, e_ex21, e_ex30, e_ex31, e_ex32, e_add, e_sub, e_mul, e_quo, e_rem, e_and, e_or, e_xor, e_shl, e_shr, e_eql, e_neq, e_lss, e_leq, e_gtr, e_geq, e_beq, e_bne, e_peq1, e_peq2, e_pne1, e_pne2, e_zeq1, e_zeq2, e_zne1, e_zne2, e_feq1, e_fne1, e_feq2, e_fne2, e_seq, e_sne, e_ta1, e_ta2, Nat.zero_add, Nat.add_zero, Bool.not_true, Bool.not_false]
        exact no (by omega)
    · simp only [c2, decide_false, e_fd, e_nck, e_pkt, e_pkf, e_gdtt, e_gdtf, e_gdft, e_gdff, e_ift, e_iff, e_not, e_ln, e_lnT, e_cp, e_cvi, e_ex20, e_ex21, e_ex30, e_ex31, e_ex32, e_add, e_sub, e_mul, e_quo, e_rem, e_and, e_or, e_xor, e_shl, e_shr, e_eql, e_neq, e_lss, e_leq, e_gtr, e_geq, e_beq, e_bne, e_peq1, e_peq2, e_pne1, e_pne2, e_zeq1, e_zeq2, e_zne1, e_zne2, e_feq1, e_fne1, e_feq2, e_fne2, e_seq, e_sne, e_ta1, e_ta2, Nat.zero_add, Nat.add_zero, Bool.not_true, Bool.not_false]
      exact no (by omega)
  · simp only [c1, decide_false, e_fd, e_nck, e_pkt, e_pkf, e_gdtt, e_gdtf, e_gdft, e_gdff, e_ift, e_iff, e_not, e_ln, e_lnT, e_cp, e_cvi, e_ex20, e_ex21, e_ex30, e_ex31, e_ex32, e_add, e_sub, e_mul, e_quo, e_rem, e_and, e_or, e_xor, e_shl, e_shr, e_eql, e_neq, e_lss, e_leq, e_gtr, e_geq, e_beq, e_bne, e_peq1, e_peq2, e_pne1, e_pne2, e_zeq1, e_zeq2, e_zne1, e_zne2, e_feq1, e_fne1, e_feq2, e_fne2, e_seq, e_sne, e_ta1, e_ta2, Nat.zero_add, Nat.add_zero, Bool.not_true, Bool.not_false]
    exact no (by omega)

/-- an admission: out and in again -/
theorem rel_admit (h : St W w0 d tb now ts L') (rv : Row w0 vb 43 [.bool true, I now, fv, sv]) (hV : VP w0 fob fv sob sv (vwOf now L).first its lo) (hcs : (vwOf now L).slots = its.map (·.cs)) (hr : Row w0 b 34 o.cells) (hin : Inv now L) (k0 : o.kind = 0)
    (hlo : W.heap.size ≤ lo) (hlt : ∀ k, k = d ∨ k = tb ∨ k ∈ blks ts → k < lo) (hm : mFits now L o.attr o.slot o.cls o.n = 0) {code : Value}
    (hL' : L' = L ++ [⟨o.attr.toNat, o.slot, o.cls.toNat, o.n⟩])
    (hK : ∀ w' ts' L'', St W w' d tb now ts' L'' → s6_p2 K B1 (ptr d) v ln ii w') : s6_p15 K B1 (ptr d) (ptr b) (ptr vb) code v ln ii w0 := by
  have hok := mFits_ok hm hin
  have hb := pa_bd o.attr.toNat
  have hdw : (pa o.attr.toNat).dwell = dw o.attr.toNat := rfl
  subst hL'
  have hrel : mRel now (L ++ [⟨o.attr.toNat, o.slot, o.cls.toNat, o.n⟩]) o.attr o.slot o.cls o.n = 0 := by
    unfold mRel
    rw [if_pos (chkP1_iff.2 (by omega)), ent_append, if_neg]
    have := (hin.en o.attr.toNat o.slot o.cls.toNat (by omega)).1
    unfold entT
    simp
    omega
  have hd := h.kp (kp_drw (w := w0))
  unfold s6_p15 s6_p15_d ptr
  simp only [e_fd, e_nck, e_pkt, e_pkf, e_gdtt, e_gdtf, e_gdft, e_gdff, e_ift, e_iff, e_not, e_ln, e_lnT, e_cp, e_cvi, e_ex20, e_ex21, e_ex30, e_ex31, e_ex32, e_add, e_sub, e_mul, e_quo, e_rem, e_and, e_or, e_xor, e_shl, e_shr, e_eql, e_neq, e_lss, e_leq, e_gtr, e_geq, e_beq, e_bne, e_peq1, e_peq2, e_pne1, e_pne2, e_zeq1, e_zeq2, e_zne1, e_zne2, e_feq1, e_fne1, e_feq2, e_fne2, e_seq, e_sne, e_ta1, e_ta2, Nat.zero_add, Nat.add_zero, Bool.not_true, Bool.not_false]
  refine ld1_r hr.drw rfl ?_
  refine ld1_r hr.drw rfl ?_
  refine ld1_r hr.drw rfl ?_
  refine ld1_r hr.drw rfl ?_
  refine hd.release fun w1 e1 ts1 he1 h1 hbl1 hk1 => ?_
  rw [hrel] at he1
  rw [if_pos hrel] at h1
  have hEnt : (⟨o.attr.toNat, o.slot, o.cls.toNat, -o.n⟩ : Ent) = { (⟨o.attr.toNat, o.slot, o.cls.toNat, o.n⟩ : Ent) with n := -(⟨o.attr.toNat, o.slot, o.cls.toNat, o.n⟩ : Ent).n } := rfl
  rw [hEnt] at h1
  refine errV_neq he1 ?_
  simp only [show ((0 : Int) != 0) = false from rfl, e_fd, e_nck, e_pkt, e_pkf, e_gdtt, e_gdtf, e_gdft, e_gdff, e_ift, e_iff, e_not, e_ln, e_lnT, e_cp, e_cvi, e_ex20, e_ex21, e_ex30, e_ex31, e_ex32, e_add, e_sub, e_mul, e_quo, e_rem, e_and, e_or, e_xor, e_shl, e_shr, e_eql, e_neq, e_lss, e_leq, e_gtr, e_geq, e_beq, e_bne, e_peq1, e_peq2, e_pne1, e_pne2, e_zeq1, e_zeq2, e_zne1, e_zne2, e_feq1, e_fne1, e_feq2, e_fne2, e_seq, e_sne, e_ta1, e_ta2, Nat.zero_add, Nat.add_zero, Bool.not_true, Bool.not_false]
  have hk0 : Kp (fun k => k ∈ blks ts) w0 w1 := kp_drw.trans hk1
  have hkP : Kp (fun k => k = d ∨ k ∈ blks ts) w0 w1 := hk0.mono fun k _ e => .inr e
  have rv1 := h.tabs.notP rv (by decide) (by decide) (by decide) hkP
  have hr1 := h.tabs.notP hr (by decide) (by decide) (by decide) hkP
  have hV1 : VP w1 fob fv sob sv _ its lo := hV.kpS hk0 fun k e => .inl (hlt k (.inr (.inr e)))
  -- the end
  have fin : ∀ w2, Kp (fun _ => False) w1 w2 → s6_p14 K B1 (.pointer (some ⟨d, 0, none⟩)) (.pointer (some ⟨b, 0, none⟩)) (.pointer (some ⟨vb, 0, none⟩)) code v ln ii (.bool false) w2 := by
    intro w2 hk2
    have h2 := h1.kp hk2
    have hr2 := hk2.row' hr1
    unfold s6_p14
    simp only [e_fd, e_nck, e_pkt, e_pkf, e_gdtt, e_gdtf, e_gdft, e_gdff, e_ift, e_iff, e_not, e_ln, e_lnT, e_cp, e_cvi, e_ex20, e_ex21, e_ex30, e_ex31, e_ex32, e_add, e_sub, e_mul, e_quo, e_rem, e_and, e_or, e_xor, e_shl, e_shr, e_eql, e_neq, e_lss, e_leq, e_gtr, e_geq, e_beq, e_bne, e_peq1, e_peq2, e_pne1, e_pne2, e_zeq1, e_zeq2, e_zne1, e_zne2, e_feq1, e_fne1, e_feq2, e_fne2, e_seq, e_sne, e_ta1, e_ta2, Nat.zero_add, Nat.add_zero, Bool.not_true, Bool.not_false]
    refine ld1_r hr2 rfl ?_
    refine ld1_r hr2 rfl ?_
    refine ld1_r hr2 rfl ?_
    refine ld1_r hr2 rfl ?_
    refine h2.letIn fun w3 e3 ts3 he3 h3 hbl3 hk3 => ?_
    rw [mFits_undo, hm] at he3
    refine errV_neq he3 ?_
    simp only [show ((0 : Int) != 0) = false from rfl, e_fd, e_nck, e_pkt, e_pkf, e_gdtt, e_gdtf, e_gdft, e_gdff, e_ift, e_iff, e_not, e_ln, e_lnT, e_cp, e_cvi, e_ex20, e_ex21, e_ex30, e_ex31, e_ex32, e_add, e_sub, e_mul, e_quo, e_rem, e_and, e_or, e_xor, e_shl, e_shr, e_eql, e_neq, e_lss, e_leq, e_gtr, e_geq, e_beq, e_bne, e_peq1, e_peq2, e_pne1, e_pne2, e_zeq1, e_zeq2, e_zne1, e_zne2, e_feq1, e_fne1, e_feq2, e_fne2, e_seq, e_sne, e_ta1, e_ta2, Nat.zero_add, Nat.add_zero, Bool.not_true, Bool.not_false]
    have hr3 := h2.tabs.notP hr2 (by decide) (by decide) (by decide) (hk3.mono fun k _ e => .inr e)
    unfold s6_p13
    simp only [e_fd, e_nck, e_pkt, e_pkf, e_gdtt, e_gdtf, e_gdft, e_gdff, e_ift, e_iff, e_not, e_ln, e_lnT, e_cp, e_cvi, e_ex20, e_ex21, e_ex30, e_ex31, e_ex32, e_add, e_sub, e_mul, e_quo, e_rem, e_and, e_or, e_xor, e_shl, e_shr, e_eql, e_neq, e_lss, e_leq, e_gtr, e_geq, e_beq, e_bne, e_peq1, e_peq2, e_pne1, e_pne2, e_zeq1, e_zeq2, e_zne1, e_zne2, e_feq1, e_fne1, e_feq2, e_fne2, e_seq, e_sne, e_ta1, e_ta2, Nat.zero_add, Nat.add_zero, Bool.not_true, Bool.not_false]
    refine ld1_r hr3 rfl ?_
    have en : (o.kind != 1) = true := by simp; omega
    simp only [en, e_fd, e_nck, e_pkt, e_pkf, e_gdtt, e_gdtf, e_gdft, e_gdff, e_ift, e_iff, e_not, e_ln, e_lnT, e_cp, e_cvi, e_ex20, e_ex21, e_ex30, e_ex31, e_ex32, e_add, e_sub, e_mul, e_quo, e_rem, e_and, e_or, e_xor, e_shl, e_shr, e_eql, e_neq, e_lss, e_leq, e_gtr, e_geq, e_beq, e_bne, e_peq1, e_peq2, e_pne1, e_pne2, e_zeq1, e_zeq2, e_zne1, e_zne2, e_feq1, e_fne1, e_feq2, e_fne2, e_seq, e_sne, e_ta1, e_ta2, Nat.zero_add, Nat.add_zero, Bool.not_true, Bool.not_false]
    exact hK _ _ _ h3
  have sm : ∀ w2 val2, Kp (fun _ => False) w1 w2 → ViewAt w2 val2 (vwOf now (L ++ [⟨o.attr.toNat, o.slot, o.cls.toNat, o.n⟩] ++ [{ (⟨o.attr.toNat, o.slot, o.cls.toNat, o.n⟩ : Ent) with n := -(⟨o.attr.toNat, o.slot, o.cls.toNat, o.n⟩ : Ent).n }])) w1.heap.size →
      cl Try.prog 19 #[.agg #[.bool true, I now, fv, sv], val2] (fun t51 w => un .not t51 (fun t52 w => s6_p14 K B1 (.pointer (some ⟨d, 0, none⟩)) (.pointer (some ⟨b, 0, none⟩)) (.pointer (some ⟨vb, 0, none⟩)) code v ln ii t52 w) w) w2 := by
    intro w2 val2 hk2 hv2
    rw [vwOf_undo] at hv2
    refine same_vw (L := L) (now := now) ⟨fob, fv, sob, sv, its, rfl, hV1.kp hk2, hcs⟩ hv2 fun w3 hk3 => ?_
    simp only [e_fd, e_nck, e_pkt, e_pkf, e_gdtt, e_gdtf, e_gdft, e_gdff, e_ift, e_iff, e_not, e_ln, e_lnT, e_cp, e_cvi, e_ex20, e_ex21, e_ex30, e_ex31, e_ex32, e_add, e_sub, e_mul, e_quo, e_rem, e_and, e_or, e_xor, e_shl, e_shr, e_eql, e_neq, e_lss, e_leq, e_gtr, e_geq, e_beq, e_bne, e_peq1, e_peq2, e_pne1, e_pne2, e_zeq1, e_zeq2, e_zne1, e_zne2, e_feq1, e_fne1, e_feq2, e_fne2, e_seq, e_sne, e_ta1, e_ta2, Nat.zero_add, Nat.add_zero, Bool.not_true, Bool.not_false, Bool.not_true]
    exact fin w3 (hk2.trans hk3)
  refine ⟨?_, ?_, ?_⟩
  · refine ldn_r rv1 (Nat.le_of_ble_eq_true rfl) ?_
    refine look_ok h1 fun w2 val2 hv2 hk2 => ?_
    exact sm w2 val2 hk2 hv2
  · refine ldn_r rv1 (Nat.le_of_ble_eq_true rfl) ?_
    refine look_ok h1 fun w2 val2 hv2 hk2 => ?_
    exact sm w2 val2 hk2 hv2
  · refine look_ok h1 fun w2 val2 hv2 hk2 => ?_
    refine ldn_r (hk2.row' rv1) (Nat.le_of_ble_eq_true rfl) ?_
    exact sm w2 val2 hk2 hv2

theorem rel_round {ops : List Op} {i : Nat} (hs : Scr W v ops) (hlt : i < ops.length) (h0 : St W w d tb now ts L)
    (hK : ∀ w' now' ts' L', St W w' d tb now' ts' L' → s6_p2 K B1 (ptr d) v ln (I i) w') : s6_p17 K B1 (ptr d) v ln (I i) w := by
  unfold s6_p17
  refine hs.take h0.bel hlt fun w1 b hr hb1 hbb => ?_
  have h1 := h0.kp hb1
  have ho := hs.1 _ (List.getElem_mem hlt)
  generalize hgo : ops[i] = o at *
  refine look_ok h1 fun w2 val hv2 hk2 => ?_
  obtain ⟨fob, fv, sob, sv, its, rfl, hV, hcs⟩ := hv2
  refine view_st hV.scal fun w3 vb rv3 hk3 hvb => ?_
  replace rv3 : Row w3 vb 43 [.bool true, I now, fv, sv] := rv3
  have h3 := (h1.kp hk2).kp hk3
  have hr3 := hk3.row' (hk2.row' hr)
  have hV3 := hV.kp hk3
  refine ldn_r hr3 (Nat.le_of_ble_eq_true rfl) ?_
  refine play_st (o := o) h3 fun w4 h4 hk4 => ?_
  have hr4 := h3.tabs.notP hr3 (by decide) (by decide) (by decide) hk4
  have rv4 := h3.tabs.notP rv3 (by decide) (by decide) (by decide) hk4
  have hlt1 := h1.lt
  have htb1 := h1.tabs.arr.lt
  have hV4 : VP w4 fob fv sob sv _ its w1.heap.size := hV3.kpS hk4 fun k e => .inl (by rcases e with e | e; rw [e]; exact hlt1.1; exact hlt1.2 k e)
  have hbl := blks_step now ts o
  have hlo := h1.bel.size
  have hlt' : ∀ k, k = d ∨ k = tb ∨ k ∈ blks (stepP now ts o).ts → k < w1.heap.size := by
    intro k hk
    rcases hk with rfl | rfl | hk
    · exact hlt1.1
    · exact htb1
    · rw [hbl] at hk; exact hlt1.2 k hk
  unfold ptr
  simp only [e_fd, e_nck, e_pkt, e_pkf, e_gdtt, e_gdtf, e_gdft, e_gdff, e_ift, e_iff, e_not, e_ln, e_lnT, e_cp, e_cvi, e_ex20, e_ex21, e_ex30, e_ex31, e_ex32, e_add, e_sub, e_mul, e_quo, e_rem, e_and, e_or, e_xor, e_shl, e_shr, e_eql, e_neq, e_lss, e_leq, e_gtr, e_geq, e_beq, e_bne, e_peq1, e_peq2, e_pne1, e_pne2, e_zeq1, e_zeq2, e_zne1, e_zne2, e_feq1, e_fne1, e_feq2, e_fne2, e_seq, e_sne, e_ta1, e_ta2, Nat.zero_add, Nat.add_zero, Bool.not_true, Bool.not_false]
  refine ld1_r hr4 rfl ?_
  simp only [e_fd, e_nck, e_pkt, e_pkf, e_gdtt, e_gdtf, e_gdft, e_gdff, e_ift, e_iff, e_not, e_ln, e_lnT, e_cp, e_cvi, e_ex20, e_ex21, e_ex30, e_ex31, e_ex32, e_add, e_sub, e_mul, e_quo, e_rem, e_and, e_or, e_xor, e_shl, e_shr, e_eql, e_neq, e_lss, e_leq, e_gtr, e_geq, e_beq, e_bne, e_peq1, e_peq2, e_pne1, e_pne2, e_zeq1, e_zeq2, e_zne1, e_zne2, e_feq1, e_fne1, e_feq2, e_fne2, e_seq, e_sne, e_ta1, e_ta2, Nat.zero_add, Nat.add_zero, Bool.not_true, Bool.not_false]
  -- not a release
  have skip : o.kind ≠ 1 → ∀ c : Value, s6_p13 K B1 (ptr d) (ptr b) (ptr vb) c v ln (I i) w4 := by
    intro q c
    unfold s6_p13 ptr
    simp only [e_fd, e_nck, e_pkt, e_pkf, e_gdtt, e_gdtf, e_gdft, e_gdff, e_ift, e_iff, e_not, e_ln, e_lnT, e_cp, e_cvi, e_ex20, e_ex21, e_ex30, e_ex31, e_ex32, e_add, e_sub, e_mul, e_quo, e_rem, e_and, e_or, e_xor, e_shl, e_shr, e_eql, e_neq, e_lss, e_leq, e_gtr, e_geq, e_beq, e_bne, e_peq1, e_peq2, e_pne1, e_pne2, e_zeq1, e_zeq2, e_zne1, e_zne2, e_feq1, e_fne1, e_feq2, e_fne2, e_seq, e_sne, e_ta1, e_ta2, Nat.zero_add, Nat.add_zero, Bool.not_true, Bool.not_false]
    refine ld1_r hr4 rfl ?_
    have en : (o.kind != 1) = true := by simpa using q
    simp only [en, e_fd, e_nck, e_pkt, e_pkf, e_gdtt, e_gdtf, e_gdft, e_gdff, e_ift, e_iff, e_not, e_ln, e_lnT, e_cp, e_cvi, e_ex20, e_ex21, e_ex30, e_ex31, e_ex32, e_add, e_sub, e_mul, e_quo, e_rem, e_and, e_or, e_xor, e_shl, e_shr, e_eql, e_neq, e_lss, e_leq, e_gtr, e_geq, e_beq, e_bne, e_peq1, e_peq2, e_pne1, e_pne2, e_zeq1, e_zeq2, e_zne1, e_zne2, e_feq1, e_fne1, e_feq2, e_fne2, e_seq, e_sne, e_ta1, e_ta2, Nat.zero_add, Nat.add_zero, Bool.not_true, Bool.not_false]
    exact hK _ _ _ _ h4
  by_cases k0 : o.kind = 0
  · have e : (o.kind == 0) = true := by simpa using k0
    simp only [e, e_fd, e_nck, e_pkt, e_pkf, e_gdtt, e_gdtf, e_gdft, e_gdff, e_ift, e_iff, e_not, e_ln, e_lnT, e_cp, e_cvi, e_ex20, e_ex21, e_ex30, e_ex31, e_ex32, e_add, e_sub, e_mul, e_quo, e_rem, e_and, e_or, e_xor, e_shl, e_shr, e_eql, e_neq, e_lss, e_leq, e_gtr, e_geq, e_beq, e_bne, e_peq1, e_peq2, e_pne1, e_pne2, e_zeq1, e_zeq2, e_zne1, e_zne2, e_feq1, e_fne1, e_feq2, e_fne2, e_seq, e_sne, e_ta1, e_ta2, Nat.zero_add, Nat.add_zero, Bool.not_true, Bool.not_false]
    have ecode : (stepP now ts o).code = mFits now L o.attr o.slot o.cls o.n := by unfold stepP; rw [if_pos k0]; exact h3.good.fitsC _ _ _ _
    have enow : (stepP now ts o).now = now := stepP_now now ts o (.inr (by omega))
    have eL : stepL now L o = if mFits now L o.attr o.slot o.cls o.n = 0 then L ++ [⟨o.attr.toNat, o.slot, o.cls.toNat, o.n⟩] else L := by unfold stepL; rw [if_pos k0]
    rw [ecode]
    unfold s6_p16
    by_cases hm : mFits now L o.attr o.slot o.cls o.n = 0
    · have e0 : (mFits now L o.attr o.slot o.cls o.n == 0) = true := by simpa using hm
      simp only [e0, e_fd, e_nck, e_pkt, e_pkf, e_gdtt, e_gdtf, e_gdft, e_gdff, e_ift, e_iff, e_not, e_ln, e_lnT, e_cp, e_cvi, e_ex20, e_ex21, e_ex30, e_ex31, e_ex32, e_add, e_sub, e_mul, e_quo, e_rem, e_and, e_or, e_xor, e_shl, e_shr, e_eql, e_neq, e_lss, e_leq, e_gtr, e_geq, e_beq, e_bne, e_peq1, e_peq2, e_pne1, e_pne2, e_zeq1, e_zeq2, e_zne1, e_zne2, e_feq1, e_fne1, e_feq2, e_fne2, e_seq, e_sne, e_ta1, e_ta2, Nat.zero_add, Nat.add_zero, Bool.not_true, Bool.not_false]
      rw [if_pos hm] at eL
      rw [enow] at h4
      exact rel_admit h4 rv4 hV4 hcs hr4 h3.good.inv k0 hlo hlt' hm eL fun w5 ts5 L5 h5 => hK _ _ _ _ h5
    · have e0 : (mFits now L o.attr o.slot o.cls o.n == 0) = false := by simpa using hm
      simp only [e0, e_fd, e_nck, e_pkt, e_pkf, e_gdtt, e_gdtf, e_gdft, e_gdff, e_ift, e_iff, e_not, e_ln, e_lnT, e_cp, e_cvi, e_ex20, e_ex21, e_ex30, e_ex31, e_ex32, e_add, e_sub, e_mul, e_quo, e_rem, e_and, e_or, e_xor, e_shl, e_shr, e_eql, e_neq, e_lss, e_leq, e_gtr, e_geq, e_beq, e_bne, e_peq1, e_peq2, e_pne1, e_pne2, e_zeq1, e_zeq2, e_zne1, e_zne2, e_feq1, e_fne1, e_feq2, e_fne2, e_seq, e_sne, e_ta1, e_ta2, Nat.zero_add, Nat.add_zero, Bool.not_true, Bool.not_false]
      exact skip (by omega) _
  · have e : (o.kind == 0) = false := by simpa using k0
    simp only [e, e_fd, e_nck, e_pkt, e_pkf, e_gdtt, e_gdtf, e_gdft, e_gdff, e_ift, e_iff, e_not, e_ln, e_lnT, e_cp, e_cvi, e_ex20, e_ex21, e_ex30, e_ex31, e_ex32, e_add, e_sub, e_mul, e_quo, e_rem, e_and, e_or, e_xor, e_shl, e_shr, e_eql, e_neq, e_lss, e_leq, e_gtr, e_geq, e_beq, e_bne, e_peq1, e_peq2, e_pne1, e_pne2, e_zeq1, e_zeq2, e_zne1, e_zne2, e_feq1, e_fne1, e_feq2, e_fne2, e_seq, e_sne, e_ta1, e_ta2, Nat.zero_add, Nat.add_zero, Bool.not_true, Bool.not_false]
    unfold s6_p16
    simp only [e_fd, e_nck, e_pkt, e_pkf, e_gdtt, e_gdtf, e_gdft, e_gdff, e_ift, e_iff, e_not, e_ln, e_lnT, e_cp, e_cvi, e_ex20, e_ex21, e_ex30, e_ex31, e_ex32, e_add, e_sub, e_mul, e_quo, e_rem, e_and, e_or, e_xor, e_shl, e_shr, e_eql, e_neq, e_lss, e_leq, e_gtr, e_geq, e_beq, e_bne, e_peq1, e_peq2, e_pne1, e_pne2, e_zeq1, e_zeq2, e_zne1, e_zne2, e_feq1, e_fne1, e_feq2, e_fne2, e_seq, e_sne, e_ta1, e_ta2, Nat.zero_add, Nat.add_zero, Bool.not_true, Bool.not_false]
    by_cases k1 : o.kind = 1
    · have ecode : (stepP now ts o).code = mRel now L o.attr o.slot o.cls o.n := by unfold stepP; rw [if_neg k0, if_pos k1]; exact h3.good.relC _ _ _ _
      have enow : (stepP now ts o).now = now := stepP_now now ts o (.inr (by omega))
      have eL : stepL now L o = if mRel now L o.attr o.slot o.cls o.n = 0 then L ++ [⟨o.attr.toNat, o.slot, o.cls.toNat, -o.n⟩] else L := by unfold stepL; rw [if_neg k0, if_pos k1]
      rw [ecode]
      rw [enow] at h4
      exact rel_step h4 rv4 hV4 hcs hr4 h3.good.inv ho k1 hlo hlt' eL fun w5 h5 => hK _ _ _ _ h5
    · exact skip k1 _
end

theorem rel_law {W : World} {v : Value} {ops : List Op} (hs : Scr W v ops) : cl Try.prog 6 #[v] (fun r w' => r = .bool true ∧ Below W.heap.size W w') W := by
  apply c6
  unfold s6_p20
  refine small_ok hs ?_
  simp only [e_fd, e_nck, e_pkt, e_pkf, e_gdtt, e_gdtf, e_gdft, e_gdff, e_ift, e_iff, e_not, e_ln, e_lnT, e_cp, e_cvi, e_ex20, e_ex21, e_ex30, e_ex31, e_ex32, e_add, e_sub, e_mul, e_quo, e_rem, e_and, e_or, e_xor, e_shl, e_shr, e_eql, e_neq, e_lss, e_leq, e_gtr, e_geq, e_beq, e_bne, e_peq1, e_peq2, e_pne1, e_pne2, e_zeq1, e_zeq2, e_zne1, e_zne2, e_feq1, e_fne1, e_feq2, e_fne2, e_seq, e_sne, e_ta1, e_ta2, Nat.zero_add, Nat.add_zero, Bool.not_true, Bool.not_false]
  by_cases hsm : ops.length ≤ 65536
  · rw [decide_eq_true hsm]
    simp only [Bool.not_true, e_fd, e_nck, e_pkt, e_pkf, e_gdtt, e_gdtf, e_gdft, e_gdff, e_ift, e_iff, e_not, e_ln, e_lnT, e_cp, e_cvi, e_ex20, e_ex21, e_ex30, e_ex31, e_ex32, e_add, e_sub, e_mul, e_quo, e_rem, e_and, e_or, e_xor, e_shl, e_shr, e_eql, e_neq, e_lss, e_leq, e_gtr, e_geq, e_beq, e_bne, e_peq1, e_peq2, e_pne1, e_pne2, e_zeq1, e_zeq2, e_zne1, e_zne2, e_feq1, e_fne1, e_feq2, e_fne2, e_seq, e_sne, e_ta1, e_ta2, Nat.zero_add, Nat.add_zero, Bool.not_true, Bool.not_false]
    refine fresh_st fun w0 d tb ts0 h0 hk0 hd0 => ?_
    refine hs.ln ?_
    refine ⟨fun m l w => ∃ (i : Nat) (now : Int) (ts : List Tab) (L : List Ent), i ≤ ops.length ∧ m = ops.length - i ∧ l = [ptr d, v, I ops.length, I i] ∧ St W w d tb now ts L,
      ops.length, ⟨0, 0, ts0, [], by omega, by omega, rfl, h0⟩, ?_⟩
    rintro m l w ⟨i, now, ts, L, hi, hm, rfl, h⟩
    rw [s6_p19_Fe]
    unfold s6_p18
    simp only [e_fd, e_nck, e_pkt, e_pkf, e_gdtt, e_gdtf, e_gdft, e_gdff, e_ift, e_iff, e_not, e_ln, e_lnT, e_cp, e_cvi, e_ex20, e_ex21, e_ex30, e_ex31, e_ex32, e_add, e_sub, e_mul, e_quo, e_rem, e_and, e_or, e_xor, e_shl, e_shr, e_eql, e_neq, e_lss, e_leq, e_gtr, e_geq, e_beq, e_bne, e_peq1, e_peq2, e_pne1, e_pne2, e_zeq1, e_zeq2, e_zne1, e_zne2, e_feq1, e_fne1, e_feq2, e_fne2, e_seq, e_sne, e_ta1, e_ta2, Nat.zero_add, Nat.add_zero, Bool.not_true, Bool.not_false]
    by_cases hlt : i < ops.length
    · have hlt' : (i : Int) < (ops.length : Int) := by omega
      simp only [hlt', decide_true, e_fd, e_nck, e_pkt, e_pkf, e_gdtt, e_gdtf, e_gdft, e_gdff, e_ift, e_iff, e_not, e_ln, e_lnT, e_cp, e_cvi, e_ex20, e_ex21, e_ex30, e_ex31, e_ex32, e_add, e_sub, e_mul, e_quo, e_rem, e_and, e_or, e_xor, e_shl, e_shr, e_eql, e_neq, e_lss, e_leq, e_gtr, e_geq, e_beq, e_bne, e_peq1, e_peq2, e_pne1, e_pne2, e_zeq1, e_zeq2, e_zne1, e_zne2, e_feq1, e_fne1, e_feq2, e_fne2, e_seq, e_sne, e_ta1, e_ta2, Nat.zero_add, Nat.add_zero, Bool.not_true, Bool.not_false]
      refine rel_round hs hlt h fun w' now' ts' L' h' => ?_
      unfold s6_p2
      simp only [e_fd, e_nck, e_pkt, e_pkf, e_gdtt, e_gdtf, e_gdft, e_gdff, e_ift, e_iff, e_not, e_ln, e_lnT, e_cp, e_cvi, e_ex20, e_ex21, e_ex30, e_ex31, e_ex32, e_add, e_sub, e_mul, e_quo, e_rem, e_and, e_or, e_xor, e_shl, e_shr, e_eql, e_neq, e_lss, e_leq, e_gtr, e_geq, e_beq, e_bne, e_peq1, e_peq2, e_pne1, e_pne2, e_zeq1, e_zeq2, e_zne1, e_zne2, e_feq1, e_fne1, e_feq2, e_fne2, e_seq, e_sne, e_ta1, e_ta2, Nat.zero_add, Nat.add_zero, Bool.not_true, Bool.not_false]
      rw [wrap64_id (by omega) (by omega)]
      exact ⟨ops.length - (i + 1), by omega, i + 1, now', ts', L', by omega, rfl, by simp, h'⟩
    · have hlt' : ¬ (i : Int) < (ops.length : Int) := by omega
      simp only [hlt', decide_false, e_fd, e_nck, e_pkt, e_pkf, e_gdtt, e_gdtf, e_gdft, e_gdff, e_ift, e_iff, e_not, e_ln, e_lnT, e_cp, e_cvi, e_ex20, e_ex21, e_ex30, e_ex31, e_ex32, e_add, e_sub, e_mul, e_quo, e_rem, e_and, e_or, e_xor, e_shl, e_shr, e_eql, e_neq, e_lss, e_leq, e_gtr, e_geq, e_beq, e_bne, e_peq1, e_peq2, e_pne1, e_pne2, e_zeq1, e_zeq2, e_zne1, e_zne2, e_feq1, e_fne1, e_feq2, e_fne2, e_seq, e_sne, e_ta1, e_ta2, Nat.zero_add, Nat.add_zero, Bool.not_true, Bool.not_false]
      unfold s6_p1
      exact ⟨rfl, h.bel⟩
  · rw [decide_eq_false hsm]
    simp only [Bool.not_false, e_fd, e_nck, e_pkt, e_pkf, e_gdtt, e_gdtf, e_gdft, e_gdff, e_ift, e_iff, e_not, e_ln, e_lnT, e_cp, e_cvi, e_ex20, e_ex21, e_ex30, e_ex31, e_ex32, e_add, e_sub, e_mul, e_quo, e_rem, e_and, e_or, e_xor, e_shl, e_shr, e_eql, e_neq, e_lss, e_leq, e_gtr, e_geq, e_beq, e_bne, e_peq1, e_peq2, e_pne1, e_pne2, e_zeq1, e_zeq2, e_zne1, e_zne2, e_feq1, e_fne1, e_feq2, e_fne2, e_seq, e_sne, e_ta1, e_ta2, Nat.zero_add, Nat.add_zero, Bool.not_true, Bool.not_false]
    exact ⟨trivial, Below.refl _ _⟩

theorem rel_walk {W : World} {v : Value} {ops : List Op} (hs : Scr W v ops) : Calls Try.prog 6 #[v] W fun e w' => e = .returned (.bool true) ∧ Below W.heap.size W w' :=
  Calls.mono (rel_law hs) fun e w' ⟨v, he, hv, hb⟩ => ⟨by rw [he, hv], hb⟩
end Go.Proofs.Qxb6500897a
