import Derived.Test.Qxb6500896aGreatK84
namespace Go.Proofs.Qxb6500896aGreat
open Go.Sh Go.RowKit
set_option linter.unusedVariables false
set_option linter.unusedSimpArgs false

section
variable {W w w' w0 w1 : World} {fv : Value} {ans : Rq → List Int} {Z : (Nat → Prop) → World → Prop} {V F : Nat → Prop} {ob : Nat} {d : ObD} {v : Value} {out : List Int} {q : Rq} {K : Value → World → Prop} {now : Int}
/-- the slots of an attraction -/
theorem obs_slots (s : Srv W fv ans Z) (hn : 0 ≤ now ∧ now ≤ 1000000) {a : Nat} (ha : a ≤ 3) {B : List Value → World → Prop} {pre : List Rq} (hpl : pre.length ≤ 200) (o : Ob Z w0 w d v (pre.flatMap ans))
    (hK : ∀ w' v', Ob Z w0 w' d v' ((pre ++ (List.range 10).flatMap (obsS now a)).flatMap ans) → s26_p2 K B fv (P d.cb 0) v' (I now) (I (a : Nat)) w') :
    s26_p5 K B fv (P d.cb 0) v (I now) (I (a : Nat)) (I (now - 1)) w := by
  unfold s26_p5
  refine loop_n 10 (fun k l w' => ∃ v', l = [fv, P d.cb 0, v', I now, I (a : Nat), I (now - 1 + ((k : Nat) : Int))] ∧ Ob Z w0 w' d v' ((pre ++ (List.range k).flatMap (obsS now a)).flatMap ans)) ⟨v, by simp, by simpa using o⟩ ?_ ?_
  · rintro k l w1 hk ⟨v1, rfl, o1⟩ B1 hB
    rw [s26_p5_Fe]
    unfold s26_p4
    have r1 := o1.cfg
    refine fdp ?_
    refine ld1_r (v := I 8) r1 rfl ?_
    try simp only [e_fd, e_nck, e_pkt, e_pkf, e_gdtt, e_gdtf, e_gdft, e_gdff, e_ift, e_iff, e_not, e_ln, e_lnT, e_cp, e_cvi, e_ex20, e_ex21, e_ex30, e_ex31, e_ex32, e_add, e_sub, e_mul, e_quo, e_rem, e_and, e_or, e_xor, e_shl, e_shr, e_eql, e_neq, e_lss, e_leq, e_gtr, e_geq, e_beq, e_bne, e_peq1, e_peq2, e_pne1, e_pne2, e_zeq1, e_zeq2, e_zne1, e_zne2, e_feq1, e_fne1, e_feq2, e_fne2, e_seq, e_sne, e_ta1, e_ta2, Nat.zero_add, Nat.add_zero, Bool.not_true, Bool.not_false]
    rw [wrap64_id (n := now + 8) (by omega) (by omega)]
    have e1 : decide (now - 1 + ((k : Nat) : Int) ≤ now + 8) = true := by simp; omega
    simp only [e1, e_fd, e_nck, e_pkt, e_pkf, e_gdtt, e_gdtf, e_gdft, e_gdff, e_ift, e_iff, e_not, e_ln, e_lnT, e_cp, e_cvi, e_ex20, e_ex21, e_ex30, e_ex31, e_ex32, e_add, e_sub, e_mul, e_quo, e_rem, e_and, e_or, e_xor, e_shl, e_shr, e_eql, e_neq, e_lss, e_leq, e_gtr, e_geq, e_beq, e_bne, e_peq1, e_peq2, e_pne1, e_pne2, e_zeq1, e_zeq2, e_zne1, e_zne2, e_feq1, e_fne1, e_feq2, e_fne2, e_seq, e_sne, e_ta1, e_ta2, Nat.zero_add, Nat.add_zero, Bool.not_true, Bool.not_false]
    have len := obsS_len now a k
    have hl := fl_len s.len (pre ++ (List.range k).flatMap (obsS now a))
    rw [List.length_append] at hl
    have nx : ∀ {w2 : World} {v2 : Value}, Ob Z w0 w2 d v2 ((pre ++ (List.range (k + 1)).flatMap (obsS now a)).flatMap ans) → s26_p3 K B B1 fv (P d.cb 0) v2 (I now) (I (a : Nat)) (I (now - 1 + ((k : Nat) : Int))) w2 := fun {w2 v2} o2 => by
      unfold s26_p3
      try simp only [e_fd, e_nck, e_pkt, e_pkf, e_gdtt, e_gdtf, e_gdft, e_gdff, e_ift, e_iff, e_not, e_ln, e_lnT, e_cp, e_cvi, e_ex20, e_ex21, e_ex30, e_ex31, e_ex32, e_add, e_sub, e_mul, e_quo, e_rem, e_and, e_or, e_xor, e_shl, e_shr, e_eql, e_neq, e_lss, e_leq, e_gtr, e_geq, e_beq, e_bne, e_peq1, e_peq2, e_pne1, e_pne2, e_zeq1, e_zeq2, e_zne1, e_zne2, e_feq1, e_fne1, e_feq2, e_fne2, e_seq, e_sne, e_ta1, e_ta2, Nat.zero_add, Nat.add_zero, Bool.not_true, Bool.not_false]
      rw [wrap64_id (by omega) (by omega)]
      exact hB _ _ ⟨v2, by rw [show now - 1 + ((k : Nat) : Int) + 1 = now - 1 + ((k + 1 : Nat) : Int) by omega], o2⟩
    by_cases h0 : 0 ≤ now - 1 + ((k : Nat) : Int)
    · have e2 : obsS now a k = [qq 18 0 (a : Nat) (now - 1 + ((k : Nat) : Int)) 0] := by unfold obsS; rw [if_pos h0]
      simp only [h0, decide_true, e_fd, e_nck, e_pkt, e_pkf, e_gdtt, e_gdtf, e_gdft, e_gdff, e_ift, e_iff, e_not, e_ln, e_lnT, e_cp, e_cvi, e_ex20, e_ex21, e_ex30, e_ex31, e_ex32, e_add, e_sub, e_mul, e_quo, e_rem, e_and, e_or, e_xor, e_shl, e_shr, e_eql, e_neq, e_lss, e_leq, e_gtr, e_geq, e_beq, e_bne, e_peq1, e_peq2, e_pne1, e_pne2, e_zeq1, e_zeq2, e_zne1, e_zne2, e_feq1, e_fne1, e_feq2, e_fne2, e_seq, e_sne, e_ta1, e_ta2, Nat.zero_add, Nat.add_zero, Bool.not_true, Bool.not_false]
      refine bdq_r (l := (qq 18 0 (a : Nat) (now - 1 + ((k : Nat) : Int)) 0).cells nilS) rfl ?_
      refine o1.add s (qok_slot (n63_n (by omega)) ⟨h0, by omega⟩) (by omega) fun w2 v2 o2 => ?_
      refine nx ?_
      rw [rg_snoc, e2, ← List.append_assoc, fl_app]
      simpa using o2
    · have e2 : obsS now a k = [] := by unfold obsS; rw [if_neg h0]
      simp only [h0, decide_false, e_fd, e_nck, e_pkt, e_pkf, e_gdtt, e_gdtf, e_gdft, e_gdff, e_ift, e_iff, e_not, e_ln, e_lnT, e_cp, e_cvi, e_ex20, e_ex21, e_ex30, e_ex31, e_ex32, e_add, e_sub, e_mul, e_quo, e_rem, e_and, e_or, e_xor, e_shl, e_shr, e_eql, e_neq, e_lss, e_leq, e_gtr, e_geq, e_beq, e_bne, e_peq1, e_peq2, e_pne1, e_pne2, e_zeq1, e_zeq2, e_zne1, e_zne2, e_feq1, e_fne1, e_feq2, e_fne2, e_seq, e_sne, e_ta1, e_ta2, Nat.zero_add, Nat.add_zero, Bool.not_true, Bool.not_false]
      refine nx ?_
      rw [rg_snoc, e2, List.append_nil]
      exact o1
  · rintro l w1 ⟨v1, rfl, o1⟩ B1
    rw [s26_p5_Fe]
    unfold s26_p4
    have r1 := o1.cfg
    refine fdp ?_
    refine ld1_r (v := I 8) r1 rfl ?_
    try simp only [e_fd, e_nck, e_pkt, e_pkf, e_gdtt, e_gdtf, e_gdft, e_gdff, e_ift, e_iff, e_not, e_ln, e_lnT, e_cp, e_cvi, e_ex20, e_ex21, e_ex30, e_ex31, e_ex32, e_add, e_sub, e_mul, e_quo, e_rem, e_and, e_or, e_xor, e_shl, e_shr, e_eql, e_neq, e_lss, e_leq, e_gtr, e_geq, e_beq, e_bne, e_peq1, e_peq2, e_pne1, e_pne2, e_zeq1, e_zeq2, e_zne1, e_zne2, e_feq1, e_fne1, e_feq2, e_fne2, e_seq, e_sne, e_ta1, e_ta2, Nat.zero_add, Nat.add_zero, Bool.not_true, Bool.not_false]
    rw [wrap64_id (n := now + 8) (by omega) (by omega)]
    have e1 : decide (now - 1 + ((10 : Nat) : Int) ≤ now + 8) = false := by simp; omega
    simp only [e1, e_fd, e_nck, e_pkt, e_pkf, e_gdtt, e_gdtf, e_gdft, e_gdff, e_ift, e_iff, e_not, e_ln, e_lnT, e_cp, e_cvi, e_ex20, e_ex21, e_ex30, e_ex31, e_ex32, e_add, e_sub, e_mul, e_quo, e_rem, e_and, e_or, e_xor, e_shl, e_shr, e_eql, e_neq, e_lss, e_leq, e_gtr, e_geq, e_beq, e_bne, e_peq1, e_peq2, e_pne1, e_pne2, e_zeq1, e_zeq2, e_zne1, e_zne2, e_feq1, e_fne1, e_feq2, e_fne2, e_seq, e_sne, e_ta1, e_ta2, Nat.zero_add, Nat.add_zero, Bool.not_true, Bool.not_false]
    exact hK w1 v1 o1
/-- the attractions -/
theorem obs_attrs (s : Srv W fv ans Z) (hn : 0 ≤ now ∧ now ≤ 1000000) {pre : List Rq} (hpl : pre.length ≤ 100) (o : Ob Z w0 w d v (pre.flatMap ans)) (hva : ∀ {w' : World} {X : Value → World → Prop}, X (I 3) w' → lnS d.va X w')
    (hK : ∀ w' v', Ob Z w0 w' d v' ((pre ++ (List.range 4).flatMap (obsA now)).flatMap ans) → K v' w') :
    s26_p9 K fv (P d.cb 0) v (I now) w := by
  unfold s26_p9 s26_p8
  refine loop_n 4 (fun k l w' => ∃ v', l = [fv, P d.cb 0, v', I now, I (k : Nat)] ∧ Ob Z w0 w' d v' ((pre ++ (List.range k).flatMap (obsA now)).flatMap ans)) ⟨v, by simp, by simpa using o⟩ ?_ ?_
  · rintro k l w1 hk ⟨v1, rfl, o1⟩ B1 hB
    rw [s26_p8_Fe]
    unfold s26_p7
    have r1 := o1.cfg
    refine fdp ?_
    refine ld1_r (v := d.va) r1 rfl ?_
    refine hva ?_
    try simp only [e_fd, e_nck, e_pkt, e_pkf, e_gdtt, e_gdtf, e_gdft, e_gdff, e_ift, e_iff, e_not, e_ln, e_lnT, e_cp, e_cvi, e_ex20, e_ex21, e_ex30, e_ex31, e_ex32, e_add, e_sub, e_mul, e_quo, e_rem, e_and, e_or, e_xor, e_shl, e_shr, e_eql, e_neq, e_lss, e_leq, e_gtr, e_geq, e_beq, e_bne, e_peq1, e_peq2, e_pne1, e_pne2, e_zeq1, e_zeq2, e_zne1, e_zne2, e_feq1, e_fne1, e_feq2, e_fne2, e_seq, e_sne, e_ta1, e_ta2, Nat.zero_add, Nat.add_zero, Bool.not_true, Bool.not_false]
    have e1 : decide (((k : Nat) : Int) ≤ 3) = true := by simp; omega
    simp only [e1, e_fd, e_nck, e_pkt, e_pkf, e_gdtt, e_gdtf, e_gdft, e_gdff, e_ift, e_iff, e_not, e_ln, e_lnT, e_cp, e_cvi, e_ex20, e_ex21, e_ex30, e_ex31, e_ex32, e_add, e_sub, e_mul, e_quo, e_rem, e_and, e_or, e_xor, e_shl, e_shr, e_eql, e_neq, e_lss, e_leq, e_gtr, e_geq, e_beq, e_bne, e_peq1, e_peq2, e_pne1, e_pne2, e_zeq1, e_zeq2, e_zne1, e_zne2, e_feq1, e_fne1, e_feq2, e_fne2, e_seq, e_sne, e_ta1, e_ta2, Nat.zero_add, Nat.add_zero, Bool.not_true, Bool.not_false]
    unfold s26_p6
    have len := obsA_len now k
    have hl := fl_len s.len (pre ++ (List.range k).flatMap (obsA now))
    rw [List.length_append] at hl
    refine bdq_r (l := (qq 19 0 (k : Nat) 0 0).cells nilS) rfl ?_
    refine o1.add s (qok_line (n63_n (by omega))) (by omega) fun w2 v2 o2 => ?_
    try simp only [e_fd, e_nck, e_pkt, e_pkf, e_gdtt, e_gdtf, e_gdft, e_gdff, e_ift, e_iff, e_not, e_ln, e_lnT, e_cp, e_cvi, e_ex20, e_ex21, e_ex30, e_ex31, e_ex32, e_add, e_sub, e_mul, e_quo, e_rem, e_and, e_or, e_xor, e_shl, e_shr, e_eql, e_neq, e_lss, e_leq, e_gtr, e_geq, e_beq, e_bne, e_peq1, e_peq2, e_pne1, e_pne2, e_zeq1, e_zeq2, e_zne1, e_zne2, e_feq1, e_fne1, e_feq2, e_fne2, e_seq, e_sne, e_ta1, e_ta2, Nat.zero_add, Nat.add_zero, Bool.not_true, Bool.not_false]
    rw [wrap64_id (by omega) (by omega)]
    have e3 : (pre ++ (List.range k).flatMap (obsA now)).flatMap ans ++ ans (qq 19 0 (k : Nat) 0 0) = (pre ++ (List.range k).flatMap (obsA now) ++ [qq 19 0 (k : Nat) 0 0]).flatMap ans := by rw [fl_app _ _ [qq 19 0 (k : Nat) 0 0]]; simp
    rw [e3] at o2
    refine obs_slots s hn (by omega) (by rw [List.length_append, List.length_append, List.length_singleton]; omega) o2 fun w3 v3 o3 => ?_
    unfold s26_p2
    try simp only [e_fd, e_nck, e_pkt, e_pkf, e_gdtt, e_gdtf, e_gdft, e_gdff, e_ift, e_iff, e_not, e_ln, e_lnT, e_cp, e_cvi, e_ex20, e_ex21, e_ex30, e_ex31, e_ex32, e_add, e_sub, e_mul, e_quo, e_rem, e_and, e_or, e_xor, e_shl, e_shr, e_eql, e_neq, e_lss, e_leq, e_gtr, e_geq, e_beq, e_bne, e_peq1, e_peq2, e_pne1, e_pne2, e_zeq1, e_zeq2, e_zne1, e_zne2, e_feq1, e_fne1, e_feq2, e_fne2, e_seq, e_sne, e_ta1, e_ta2, Nat.zero_add, Nat.add_zero, Bool.not_true, Bool.not_false]
    rw [inc k (by omega)]
    refine hB _ _ ⟨v3, rfl, ?_⟩
    rw [rg_snoc]
    have e4 : pre ++ ((List.range k).flatMap (obsA now) ++ obsA now k) = pre ++ (List.range k).flatMap (obsA now) ++ [qq 19 0 (k : Nat) 0 0] ++ (List.range 10).flatMap (obsS now k) := by
      unfold obsA
      simp only [List.append_assoc, List.singleton_append]
    rw [e4]
    exact o3
  · rintro l w1 ⟨v1, rfl, o1⟩ B1
    rw [s26_p8_Fe]
    unfold s26_p7
    have r1 := o1.cfg
    refine fdp ?_
    refine ld1_r (v := d.va) r1 rfl ?_
    refine hva ?_
    try simp only [e_fd, e_nck, e_pkt, e_pkf, e_gdtt, e_gdtf, e_gdft, e_gdff, e_ift, e_iff, e_not, e_ln, e_lnT, e_cp, e_cvi, e_ex20, e_ex21, e_ex30, e_ex31, e_ex32, e_add, e_sub, e_mul, e_quo, e_rem, e_and, e_or, e_xor, e_shl, e_shr, e_eql, e_neq, e_lss, e_leq, e_gtr, e_geq, e_beq, e_bne, e_peq1, e_peq2, e_pne1, e_pne2, e_zeq1, e_zeq2, e_zne1, e_zne2, e_feq1, e_fne1, e_feq2, e_fne2, e_seq, e_sne, e_ta1, e_ta2, Nat.zero_add, Nat.add_zero, Bool.not_true, Bool.not_false]
    have e1 : decide (((4 : Nat) : Int) ≤ 3) = false := by decide
    simp only [e1, e_fd, e_nck, e_pkt, e_pkf, e_gdtt, e_gdtf, e_gdft, e_gdff, e_ift, e_iff, e_not, e_ln, e_lnT, e_cp, e_cvi, e_ex20, e_ex21, e_ex30, e_ex31, e_ex32, e_add, e_sub, e_mul, e_quo, e_rem, e_and, e_or, e_xor, e_shl, e_shr, e_eql, e_neq, e_lss, e_leq, e_gtr, e_geq, e_beq, e_bne, e_peq1, e_peq2, e_pne1, e_pne2, e_zeq1, e_zeq2, e_zne1, e_zne2, e_feq1, e_fne1, e_feq2, e_fne2, e_seq, e_sne, e_ta1, e_ta2, Nat.zero_add, Nat.add_zero, Bool.not_true, Bool.not_false]
    unfold s26_p1
    exact hK w1 v1 o1
end
end Go.Proofs.Qxb6500896aGreat
