import Derived.Test.Qxb6500898aV26
namespace Go.Proofs.Qxb6500898a
open Go.Sh Go.RowKit
set_option linter.unusedVariables false
set_option linter.unusedSimpArgs false

section
variable {W w w' w0 w2 : World} {v d t wv rv dv t0 t1 t2 : Value} {ob mwb mrb mwb0 mrb0 : Option Nat} {mm t3 t4 b e m n i k : Nat} {xs ys zs pr da X Y : List Int} {K : Value → World → Prop} {kk : World → Prop} {S S' : Nat → Prop} {L : List Value} {q c z : Int} {little : Bool} {s s' s0 : Mst} {o : Op}
theorem ms_set (R : Mc W w0 mm mwb0 mrb0 o dv t3 t4 w mwb mrb wv rv s) (hK : MStepK w0 mm mwb0 mrb0 s o K) (hd : Bs W dv o.data) (hdl : o.data.length ≤ 65536) (hk : o.kind = 0) : s14_p2 K (Pt mm 0) (Pt t3 0) (Pt t4 0) w := by
  unfold s14_p2
  try simp only [e_fd, e_nck, e_pkt, e_pkf, e_gdtt, e_gdtf, e_gdft, e_gdff, e_ift, e_iff, e_not, e_ln, e_lnT, e_cp, e_cvi, e_ex20, e_ex21, e_ex30, e_ex31, e_ex32, e_add, e_sub, e_mul, e_quo, e_rem, e_and, e_or, e_xor, e_shl, e_shr, e_eql, e_neq, e_lss, e_leq, e_gtr, e_geq, e_beq, e_bne, e_peq1, e_peq2, e_pne1, e_pne2, e_zeq1, e_zeq2, e_zne1, e_zne2, e_feq1, e_fne1, e_feq2, e_fne2, e_seq, e_sne, e_ta1, e_ta2, Nat.zero_add, Nat.add_zero, Bool.not_true, Bool.not_false]
  refine ld1_r R.r3 rfl ?_
  refine copy_ok (hd.kp' R.kW) (by omega) fun w1 b v1 s1 hb hk1 => ?_
  try simp only [e_fd, e_nck, e_pkt, e_pkf, e_gdtt, e_gdtf, e_gdft, e_gdff, e_ift, e_iff, e_not, e_ln, e_lnT, e_cp, e_cvi, e_ex20, e_ex21, e_ex30, e_ex31, e_ex32, e_add, e_sub, e_mul, e_quo, e_rem, e_and, e_or, e_xor, e_shl, e_shr, e_eql, e_neq, e_lss, e_leq, e_gtr, e_geq, e_beq, e_bne, e_peq1, e_peq2, e_pne1, e_pne2, e_zeq1, e_zeq2, e_zne1, e_zne2, e_feq1, e_fne1, e_feq2, e_fne2, e_seq, e_sne, e_ta1, e_ta2, Nat.zero_add, Nat.add_zero, Bool.not_true, Bool.not_false]
  have sz := R.kp.size
  refine (R.kp' hk1).work s1 (by omega) hd.by_ (by omega) fun w2 R2 hk2 => ?_
  refine bdq_r (l := [.bool true, .int .u64 0, .slice none 0 0]) rfl ?_
  refine R2.nil hK ?_
  unfold StepR
  rw [if_pos hk]
  exact ⟨rfl, rfl, rfl, rfl⟩
theorem ms_load (R : Mc W w0 mm mwb0 mrb0 o dv t3 t4 w mwb mrb wv rv s) (hK : MStepK w0 mm mwb0 mrb0 s o K) (hk : o.kind = 1) : s14_p6 K (Pt mm 0) (Pt t3 0) (Pt t4 0) w := by
  unfold s14_p6
  have R := R.kp' (w' := drw w) kp_drw
  generalize drw w = w at R ⊢
  have hwl := R.m.wl
  refine ⟨fun w' => Kp (fun _ => False) w w', Kp.refl _ _, ?_⟩
  unfold s14_p6_d
  try simp only [e_fd, e_nck, e_pkt, e_pkf, e_gdtt, e_gdtf, e_gdft, e_gdff, e_ift, e_iff, e_not, e_ln, e_lnT, e_cp, e_cvi, e_ex20, e_ex21, e_ex30, e_ex31, e_ex32, e_add, e_sub, e_mul, e_quo, e_rem, e_and, e_or, e_xor, e_shl, e_shr, e_eql, e_neq, e_lss, e_leq, e_gtr, e_geq, e_beq, e_bne, e_peq1, e_peq2, e_pne1, e_pne2, e_zeq1, e_zeq2, e_zne1, e_zne2, e_feq1, e_fne1, e_feq2, e_fne2, e_seq, e_sne, e_ta1, e_ta2, Nat.zero_add, Nat.add_zero, Bool.not_true, Bool.not_false]
  refine ⟨I o.width, fun w1 hJ => ld1_r (hJ.row' R.r3) rfl ⟨rfl, hJ⟩, ?_⟩
  refine ⟨.bool (decide (Wid o.width)), fun w1 hJ => goodM_ok ⟨rfl, hJ⟩, ?_⟩
  have no : ∀ {w1 : World}, Kp (fun _ => False) w w1 → ¬ (Wid o.width ∧ FitsP s.work.length o.off o.width) → s14_p5 K (Pt mm 0) (Pt t3 0) (Pt t4 0) (.bool true) w1 := by
    intro w1 hk1 hn
    unfold s14_p5
    try simp only [e_fd, e_nck, e_pkt, e_pkf, e_gdtt, e_gdtf, e_gdft, e_gdff, e_ift, e_iff, e_not, e_ln, e_lnT, e_cp, e_cvi, e_ex20, e_ex21, e_ex30, e_ex31, e_ex32, e_add, e_sub, e_mul, e_quo, e_rem, e_and, e_or, e_xor, e_shl, e_shr, e_eql, e_neq, e_lss, e_leq, e_gtr, e_geq, e_beq, e_bne, e_peq1, e_peq2, e_pne1, e_pne2, e_zeq1, e_zeq2, e_zne1, e_zne2, e_feq1, e_fne1, e_feq2, e_fne2, e_seq, e_sne, e_ta1, e_ta2, Nat.zero_add, Nat.add_zero, Bool.not_true, Bool.not_false]
    refine bdq_r (l := [.bool false, .int .u64 0, .slice none 0 0]) rfl ?_
    refine (R.kp' hk1).nil hK ?_
    unfold StepR
    rw [if_neg (by omega), if_pos hk]
    exact ⟨rfl, .inr ⟨hn, rfl, rfl⟩, rfl⟩
  by_cases hw : ¬ Wid o.width
  · rw [decide_eq_false hw]
    simp only [Bool.not_false, e_fd, e_nck, e_pkt, e_pkf, e_gdtt, e_gdtf, e_gdft, e_gdff, e_ift, e_iff, e_not, e_ln, e_lnT, e_cp, e_cvi, e_ex20, e_ex21, e_ex30, e_ex31, e_ex32, e_add, e_sub, e_mul, e_quo, e_rem, e_and, e_or, e_xor, e_shl, e_shr, e_eql, e_neq, e_lss, e_leq, e_gtr, e_geq, e_beq, e_bne, e_peq1, e_peq2, e_pne1, e_pne2, e_zeq1, e_zeq2, e_zne1, e_zne2, e_feq1, e_fne1, e_feq2, e_fne2, e_seq, e_sne, e_ta1, e_ta2, Nat.zero_add, Nat.add_zero, Bool.not_true, Bool.not_false]
    refine ⟨undef, fun w1 hJ => by rw [e_gdtf]; exact ⟨rfl, hJ⟩, ?_⟩
    try simp only [e_fd, e_nck, e_pkt, e_pkf, e_gdtt, e_gdtf, e_gdft, e_gdff, e_ift, e_iff, e_not, e_ln, e_lnT, e_cp, e_cvi, e_ex20, e_ex21, e_ex30, e_ex31, e_ex32, e_add, e_sub, e_mul, e_quo, e_rem, e_and, e_or, e_xor, e_shl, e_shr, e_eql, e_neq, e_lss, e_leq, e_gtr, e_geq, e_beq, e_bne, e_peq1, e_peq2, e_pne1, e_pne2, e_zeq1, e_zeq2, e_zne1, e_zne2, e_feq1, e_fne1, e_feq2, e_fne2, e_seq, e_sne, e_ta1, e_ta2, Nat.zero_add, Nat.add_zero, Bool.not_true, Bool.not_false]
    refine ⟨undef, fun w1 hJ => by rw [e_gdtf]; exact ⟨rfl, hJ⟩, ?_⟩
    try simp only [e_fd, e_nck, e_pkt, e_pkf, e_gdtt, e_gdtf, e_gdft, e_gdff, e_ift, e_iff, e_not, e_ln, e_lnT, e_cp, e_cvi, e_ex20, e_ex21, e_ex30, e_ex31, e_ex32, e_add, e_sub, e_mul, e_quo, e_rem, e_and, e_or, e_xor, e_shl, e_shr, e_eql, e_neq, e_lss, e_leq, e_gtr, e_geq, e_beq, e_bne, e_peq1, e_peq2, e_pne1, e_pne2, e_zeq1, e_zeq2, e_zne1, e_zne2, e_feq1, e_fne1, e_feq2, e_fne2, e_seq, e_sne, e_ta1, e_ta2, Nat.zero_add, Nat.add_zero, Bool.not_true, Bool.not_false]
    refine ⟨undef, fun w1 hJ => by rw [e_gdtf]; exact ⟨rfl, hJ⟩, ?_⟩
    refine ⟨undef, fun w1 hJ => by rw [e_gdtf]; exact ⟨rfl, hJ⟩, ?_⟩
    try simp only [e_fd, e_nck, e_pkt, e_pkf, e_gdtt, e_gdtf, e_gdft, e_gdff, e_ift, e_iff, e_not, e_ln, e_lnT, e_cp, e_cvi, e_ex20, e_ex21, e_ex30, e_ex31, e_ex32, e_add, e_sub, e_mul, e_quo, e_rem, e_and, e_or, e_xor, e_shl, e_shr, e_eql, e_neq, e_lss, e_leq, e_gtr, e_geq, e_beq, e_bne, e_peq1, e_peq2, e_pne1, e_pne2, e_zeq1, e_zeq2, e_zne1, e_zne2, e_feq1, e_fne1, e_feq2, e_fne2, e_seq, e_sne, e_ta1, e_ta2, Nat.zero_add, Nat.add_zero, Bool.not_true, Bool.not_false]
    intro w1 hJ
    exact no hJ (fun q => hw q.1)
  have hw : Wid o.width := Decidable.not_not.1 hw
  rw [decide_eq_true hw]
  simp only [Bool.not_true, e_fd, e_nck, e_pkt, e_pkf, e_gdtt, e_gdtf, e_gdft, e_gdff, e_ift, e_iff, e_not, e_ln, e_lnT, e_cp, e_cvi, e_ex20, e_ex21, e_ex30, e_ex31, e_ex32, e_add, e_sub, e_mul, e_quo, e_rem, e_and, e_or, e_xor, e_shl, e_shr, e_eql, e_neq, e_lss, e_leq, e_gtr, e_geq, e_beq, e_bne, e_peq1, e_peq2, e_pne1, e_pne2, e_zeq1, e_zeq2, e_zne1, e_zne2, e_feq1, e_fne1, e_feq2, e_fne2, e_seq, e_sne, e_ta1, e_ta2, Nat.zero_add, Nat.add_zero, Bool.not_true, Bool.not_false]
  refine ⟨wv, fun w1 hJ => by rw [e_gdff]; exact ld1_r (hJ.row' R.m.row) rfl ⟨rfl, hJ⟩, ?_⟩
  refine R.m.wk.ln ?_
  try simp only [e_fd, e_nck, e_pkt, e_pkf, e_gdtt, e_gdtf, e_gdft, e_gdff, e_ift, e_iff, e_not, e_ln, e_lnT, e_cp, e_cvi, e_ex20, e_ex21, e_ex30, e_ex31, e_ex32, e_add, e_sub, e_mul, e_quo, e_rem, e_and, e_or, e_xor, e_shl, e_shr, e_eql, e_neq, e_lss, e_leq, e_gtr, e_geq, e_beq, e_bne, e_peq1, e_peq2, e_pne1, e_pne2, e_zeq1, e_zeq2, e_zne1, e_zne2, e_feq1, e_fne1, e_feq2, e_fne2, e_seq, e_sne, e_ta1, e_ta2, Nat.zero_add, Nat.add_zero, Bool.not_true, Bool.not_false]
  refine ⟨I o.off, fun w1 hJ => by rw [e_gdff]; exact ld1_r (hJ.row' R.r3) rfl ⟨rfl, hJ⟩, ?_⟩
  try simp only [e_fd, e_nck, e_pkt, e_pkf, e_gdtt, e_gdtf, e_gdft, e_gdff, e_ift, e_iff, e_not, e_ln, e_lnT, e_cp, e_cvi, e_ex20, e_ex21, e_ex30, e_ex31, e_ex32, e_add, e_sub, e_mul, e_quo, e_rem, e_and, e_or, e_xor, e_shl, e_shr, e_eql, e_neq, e_lss, e_leq, e_gtr, e_geq, e_beq, e_bne, e_peq1, e_peq2, e_pne1, e_pne2, e_zeq1, e_zeq2, e_zne1, e_zne2, e_feq1, e_fne1, e_feq2, e_fne2, e_seq, e_sne, e_ta1, e_ta2, Nat.zero_add, Nat.add_zero, Bool.not_true, Bool.not_false]
  refine ⟨I o.width, fun w1 hJ => by rw [e_gdff]; exact ld1_r (hJ.row' R.r3) rfl ⟨rfl, hJ⟩, ?_⟩
  refine ⟨.bool (decide (FitsP s.work.length o.off o.width)), fun w1 hJ => by rw [e_gdff]; exact inside_ok (by omega) ⟨rfl, hJ⟩, ?_⟩
  try simp only [e_fd, e_nck, e_pkt, e_pkf, e_gdtt, e_gdtf, e_gdft, e_gdff, e_ift, e_iff, e_not, e_ln, e_lnT, e_cp, e_cvi, e_ex20, e_ex21, e_ex30, e_ex31, e_ex32, e_add, e_sub, e_mul, e_quo, e_rem, e_and, e_or, e_xor, e_shl, e_shr, e_eql, e_neq, e_lss, e_leq, e_gtr, e_geq, e_beq, e_bne, e_peq1, e_peq2, e_pne1, e_pne2, e_zeq1, e_zeq2, e_zne1, e_zne2, e_feq1, e_fne1, e_feq2, e_fne2, e_seq, e_sne, e_ta1, e_ta2, Nat.zero_add, Nat.add_zero, Bool.not_true, Bool.not_false]
  intro w1 hJ
  by_cases hf : ¬ FitsP s.work.length o.off o.width
  · rw [decide_eq_false hf]
    exact no hJ (fun q => hf q.2)
  have hf : FitsP s.work.length o.off o.width := Decidable.not_not.1 hf
  rw [decide_eq_true hf]
  have hf' := hf
  obtain ⟨f1, f2, f3, f4⟩ := hf'
  unfold s14_p5
  simp only [Bool.not_true, e_fd, e_nck, e_pkt, e_pkf, e_gdtt, e_gdtf, e_gdft, e_gdff, e_ift, e_iff, e_not, e_ln, e_lnT, e_cp, e_cvi, e_ex20, e_ex21, e_ex30, e_ex31, e_ex32, e_add, e_sub, e_mul, e_quo, e_rem, e_and, e_or, e_xor, e_shl, e_shr, e_eql, e_neq, e_lss, e_leq, e_gtr, e_geq, e_beq, e_bne, e_peq1, e_peq2, e_pne1, e_pne2, e_zeq1, e_zeq2, e_zne1, e_zne2, e_feq1, e_fne1, e_feq2, e_fne2, e_seq, e_sne, e_ta1, e_ta2, Nat.zero_add, Nat.add_zero, Bool.not_true, Bool.not_false]
  have hw2 : 2 ≤ o.width ∧ o.width ≤ 8 := by rcases hw with q | q | q <;> omega
  unfold s14_p4 s14_p4_d
  have k2 : Kp (fun _ => False) w (drw w1) := hJ.trans kp_drw
  generalize drw w1 = w2 at k2 ⊢
  have R2 := R.kp' k2
  try simp only [e_fd, e_nck, e_pkt, e_pkf, e_gdtt, e_gdtf, e_gdft, e_gdff, e_ift, e_iff, e_not, e_ln, e_lnT, e_cp, e_cvi, e_ex20, e_ex21, e_ex30, e_ex31, e_ex32, e_add, e_sub, e_mul, e_quo, e_rem, e_and, e_or, e_xor, e_shl, e_shr, e_eql, e_neq, e_lss, e_leq, e_gtr, e_geq, e_beq, e_bne, e_peq1, e_peq2, e_pne1, e_pne2, e_zeq1, e_zeq2, e_zne1, e_zne2, e_feq1, e_fne1, e_feq2, e_fne2, e_seq, e_sne, e_ta1, e_ta2, Nat.zero_add, Nat.add_zero, Bool.not_true, Bool.not_false]
  refine ld1_r R2.m.row rfl ?_
  try simp only [e_fd, e_nck, e_pkt, e_pkf, e_gdtt, e_gdtf, e_gdft, e_gdff, e_ift, e_iff, e_not, e_ln, e_lnT, e_cp, e_cvi, e_ex20, e_ex21, e_ex30, e_ex31, e_ex32, e_add, e_sub, e_mul, e_quo, e_rem, e_and, e_or, e_xor, e_shl, e_shr, e_eql, e_neq, e_lss, e_leq, e_gtr, e_geq, e_beq, e_bne, e_peq1, e_peq2, e_pne1, e_pne2, e_zeq1, e_zeq2, e_zne1, e_zne2, e_feq1, e_fne1, e_feq2, e_fne2, e_seq, e_sne, e_ta1, e_ta2, Nat.zero_add, Nat.add_zero, Bool.not_true, Bool.not_false]
  refine ld1_r R2.r3 rfl ?_
  try simp only [e_fd, e_nck, e_pkt, e_pkf, e_gdtt, e_gdtf, e_gdft, e_gdff, e_ift, e_iff, e_not, e_ln, e_lnT, e_cp, e_cvi, e_ex20, e_ex21, e_ex30, e_ex31, e_ex32, e_add, e_sub, e_mul, e_quo, e_rem, e_and, e_or, e_xor, e_shl, e_shr, e_eql, e_neq, e_lss, e_leq, e_gtr, e_geq, e_beq, e_bne, e_peq1, e_peq2, e_pne1, e_pne2, e_zeq1, e_zeq2, e_zne1, e_zne2, e_feq1, e_fne1, e_feq2, e_fne2, e_seq, e_sne, e_ta1, e_ta2, Nat.zero_add, Nat.add_zero, Bool.not_true, Bool.not_false]
  refine ld1_r R2.r3 rfl ?_
  try simp only [e_fd, e_nck, e_pkt, e_pkf, e_gdtt, e_gdtf, e_gdft, e_gdff, e_ift, e_iff, e_not, e_ln, e_lnT, e_cp, e_cvi, e_ex20, e_ex21, e_ex30, e_ex31, e_ex32, e_add, e_sub, e_mul, e_quo, e_rem, e_and, e_or, e_xor, e_shl, e_shr, e_eql, e_neq, e_lss, e_leq, e_gtr, e_geq, e_beq, e_bne, e_peq1, e_peq2, e_pne1, e_pne2, e_zeq1, e_zeq2, e_zne1, e_zne2, e_feq1, e_fne1, e_feq2, e_fne2, e_seq, e_sne, e_ta1, e_ta2, Nat.zero_add, Nat.add_zero, Bool.not_true, Bool.not_false]
  refine ld1_r R2.r3 rfl ?_
  try simp only [e_fd, e_nck, e_pkt, e_pkf, e_gdtt, e_gdtf, e_gdft, e_gdff, e_ift, e_iff, e_not, e_ln, e_lnT, e_cp, e_cvi, e_ex20, e_ex21, e_ex30, e_ex31, e_ex32, e_add, e_sub, e_mul, e_quo, e_rem, e_and, e_or, e_xor, e_shl, e_shr, e_eql, e_neq, e_lss, e_leq, e_gtr, e_geq, e_beq, e_bne, e_peq1, e_peq2, e_pne1, e_pne2, e_zeq1, e_zeq2, e_zne1, e_zne2, e_feq1, e_fne1, e_feq2, e_fne2, e_seq, e_sne, e_ta1, e_ta2, Nat.zero_add, Nat.add_zero, Bool.not_true, Bool.not_false]
  rw [wrap64_id (by omega) (by omega)]
  refine R2.m.wbs.midZ (a := o.off.toNat) (n := o.width.toNat) (by omega) (by omega) (by omega) (by omega) fun v1 hv1 => ?_
  try simp only [e_fd, e_nck, e_pkt, e_pkf, e_gdtt, e_gdtf, e_gdft, e_gdff, e_ift, e_iff, e_not, e_ln, e_lnT, e_cp, e_cvi, e_ex20, e_ex21, e_ex30, e_ex31, e_ex32, e_add, e_sub, e_mul, e_quo, e_rem, e_and, e_or, e_xor, e_shl, e_shr, e_eql, e_neq, e_lss, e_leq, e_gtr, e_geq, e_beq, e_bne, e_peq1, e_peq2, e_pne1, e_pne2, e_zeq1, e_zeq2, e_zne1, e_zne2, e_feq1, e_fne1, e_feq2, e_fne2, e_seq, e_sne, e_ta1, e_ta2, Nat.zero_add, Nat.add_zero, Bool.not_true, Bool.not_false]
  refine ld1_r R2.r3 rfl ?_
  have hln : (((s.work.drop o.off.toNat).take o.width.toNat).length : Int) = o.width := by rw [List.length_take, List.length_drop]; omega
  refine number_ok (hv1 w2 R2.m.wbs) (by omega) ?_
  rw [num_dec hw hln, dec_take hw]
  refine bdq_r (l := [.bool true, .int .u64 (dec2 o.width o.little (s.work.drop o.off.toNat)), .slice none 0 0]) rfl ?_
  unfold s14_p3
  refine R2.nil hK ?_
  unfold StepR
  rw [if_neg (by omega), if_pos hk]
  exact ⟨rfl, .inl ⟨hw, hf, rfl, rfl⟩, rfl⟩
theorem ms_store (R : Mc W w0 mm mwb0 mrb0 o dv t3 t4 w mwb mrb wv rv s) (hK : MStepK w0 mm mwb0 mrb0 s o K) (wf : o.Wf) (hk : o.kind = 2) : s14_p12 K (Pt mm 0) (Pt t3 0) (Pt t4 0) w := by
  unfold s14_p12
  have R := R.kp' (w' := drw w) kp_drw
  generalize drw w = w at R ⊢
  have hwl := R.m.wl
  refine ⟨fun w' => Kp (fun _ => False) w w', Kp.refl _ _, ?_⟩
  unfold s14_p12_d
  try simp only [e_fd, e_nck, e_pkt, e_pkf, e_gdtt, e_gdtf, e_gdft, e_gdff, e_ift, e_iff, e_not, e_ln, e_lnT, e_cp, e_cvi, e_ex20, e_ex21, e_ex30, e_ex31, e_ex32, e_add, e_sub, e_mul, e_quo, e_rem, e_and, e_or, e_xor, e_shl, e_shr, e_eql, e_neq, e_lss, e_leq, e_gtr, e_geq, e_beq, e_bne, e_peq1, e_peq2, e_pne1, e_pne2, e_zeq1, e_zeq2, e_zne1, e_zne2, e_feq1, e_fne1, e_feq2, e_fne2, e_seq, e_sne, e_ta1, e_ta2, Nat.zero_add, Nat.add_zero, Bool.not_true, Bool.not_false]
  refine ⟨I o.width, fun w1 hJ => ld1_r (hJ.row' R.r3) rfl ⟨rfl, hJ⟩, ?_⟩
  refine ⟨.bool (decide (Wid o.width)), fun w1 hJ => goodM_ok ⟨rfl, hJ⟩, ?_⟩
  have no : ∀ {w1 : World}, Kp (fun _ => False) w w1 → ¬ (Wid o.width ∧ FitsP s.work.length o.off o.width) → s14_p11 K (Pt mm 0) (Pt t3 0) (Pt t4 0) (.bool true) w1 := by
    intro w1 hk1 hn
    unfold s14_p11
    try simp only [e_fd, e_nck, e_pkt, e_pkf, e_gdtt, e_gdtf, e_gdft, e_gdff, e_ift, e_iff, e_not, e_ln, e_lnT, e_cp, e_cvi, e_ex20, e_ex21, e_ex30, e_ex31, e_ex32, e_add, e_sub, e_mul, e_quo, e_rem, e_and, e_or, e_xor, e_shl, e_shr, e_eql, e_neq, e_lss, e_leq, e_gtr, e_geq, e_beq, e_bne, e_peq1, e_peq2, e_pne1, e_pne2, e_zeq1, e_zeq2, e_zne1, e_zne2, e_feq1, e_fne1, e_feq2, e_fne2, e_seq, e_sne, e_ta1, e_ta2, Nat.zero_add, Nat.add_zero, Bool.not_true, Bool.not_false]
    refine bdq_r (l := [.bool false, .int .u64 0, .slice none 0 0]) rfl ?_
    refine (R.kp' hk1).nil hK ?_
    unfold StepR
    rw [if_neg (by omega), if_neg (by omega), if_pos hk]
    exact ⟨.inr ⟨hn, rfl, rfl⟩, rfl, rfl⟩
  by_cases hw : ¬ Wid o.width
  · rw [decide_eq_false hw]
    simp only [Bool.not_false, e_fd, e_nck, e_pkt, e_pkf, e_gdtt, e_gdtf, e_gdft, e_gdff, e_ift, e_iff, e_not, e_ln, e_lnT, e_cp, e_cvi, e_ex20, e_ex21, e_ex30, e_ex31, e_ex32, e_add, e_sub, e_mul, e_quo, e_rem, e_and, e_or, e_xor, e_shl, e_shr, e_eql, e_neq, e_lss, e_leq, e_gtr, e_geq, e_beq, e_bne, e_peq1, e_peq2, e_pne1, e_pne2, e_zeq1, e_zeq2, e_zne1, e_zne2, e_feq1, e_fne1, e_feq2, e_fne2, e_seq, e_sne, e_ta1, e_ta2, Nat.zero_add, Nat.add_zero, Bool.not_true, Bool.not_false]
    refine ⟨undef, fun w1 hJ => by rw [e_gdtf]; exact ⟨rfl, hJ⟩, ?_⟩
    try simp only [e_fd, e_nck, e_pkt, e_pkf, e_gdtt, e_gdtf, e_gdft, e_gdff, e_ift, e_iff, e_not, e_ln, e_lnT, e_cp, e_cvi, e_ex20, e_ex21, e_ex30, e_ex31, e_ex32, e_add, e_sub, e_mul, e_quo, e_rem, e_and, e_or, e_xor, e_shl, e_shr, e_eql, e_neq, e_lss, e_leq, e_gtr, e_geq, e_beq, e_bne, e_peq1, e_peq2, e_pne1, e_pne2, e_zeq1, e_zeq2, e_zne1, e_zne2, e_feq1, e_fne1, e_feq2, e_fne2, e_seq, e_sne, e_ta1, e_ta2, Nat.zero_add, Nat.add_zero, Bool.not_true, Bool.not_false]
    refine ⟨undef, fun w1 hJ => by rw [e_gdtf]; exact ⟨rfl, hJ⟩, ?_⟩
    try simp only [e_fd, e_nck, e_pkt, e_pkf, e_gdtt, e_gdtf, e_gdft, e_gdff, e_ift, e_iff, e_not, e_ln, e_lnT, e_cp, e_cvi, e_ex20, e_ex21, e_ex30, e_ex31, e_ex32, e_add, e_sub, e_mul, e_quo, e_rem, e_and, e_or, e_xor, e_shl, e_shr, e_eql, e_neq, e_lss, e_leq, e_gtr, e_geq, e_beq, e_bne, e_peq1, e_peq2, e_pne1, e_pne2, e_zeq1, e_zeq2, e_zne1, e_zne2, e_feq1, e_fne1, e_feq2, e_fne2, e_seq, e_sne, e_ta1, e_ta2, Nat.zero_add, Nat.add_zero, Bool.not_true, Bool.not_false]
    refine ⟨undef, fun w1 hJ => by rw [e_gdtf]; exact ⟨rfl, hJ⟩, ?_⟩
    refine ⟨undef, fun w1 hJ => by rw [e_gdtf]; exact ⟨rfl, hJ⟩, ?_⟩
    try simp only [e_fd, e_nck, e_pkt, e_pkf, e_gdtt, e_gdtf, e_gdft, e_gdff, e_ift, e_iff, e_not, e_ln, e_lnT, e_cp, e_cvi, e_ex20, e_ex21, e_ex30, e_ex31, e_ex32, e_add, e_sub, e_mul, e_quo, e_rem, e_and, e_or, e_xor, e_shl, e_shr, e_eql, e_neq, e_lss, e_leq, e_gtr, e_geq, e_beq, e_bne, e_peq1, e_peq2, e_pne1, e_pne2, e_zeq1, e_zeq2, e_zne1, e_zne2, e_feq1, e_fne1, e_feq2, e_fne2, e_seq, e_sne, e_ta1, e_ta2, Nat.zero_add, Nat.add_zero, Bool.not_true, Bool.not_false]
    intro w1 hJ
    exact no hJ (fun q => hw q.1)
  have hw : Wid o.width := Decidable.not_not.1 hw
  rw [decide_eq_true hw]
  simp only [Bool.not_true, e_fd, e_nck, e_pkt, e_pkf, e_gdtt, e_gdtf, e_gdft, e_gdff, e_ift, e_iff, e_not, e_ln, e_lnT, e_cp, e_cvi, e_ex20, e_ex21, e_ex30, e_ex31, e_ex32, e_add, e_sub, e_mul, e_quo, e_rem, e_and, e_or, e_xor, e_shl, e_shr, e_eql, e_neq, e_lss, e_leq, e_gtr, e_geq, e_beq, e_bne, e_peq1, e_peq2, e_pne1, e_pne2, e_zeq1, e_zeq2, e_zne1, e_zne2, e_feq1, e_fne1, e_feq2, e_fne2, e_seq, e_sne, e_ta1, e_ta2, Nat.zero_add, Nat.add_zero, Bool.not_true, Bool.not_false]
  refine ⟨wv, fun w1 hJ => by rw [e_gdff]; exact ld1_r (hJ.row' R.m.row) rfl ⟨rfl, hJ⟩, ?_⟩
  refine R.m.wk.ln ?_
  try simp only [e_fd, e_nck, e_pkt, e_pkf, e_gdtt, e_gdtf, e_gdft, e_gdff, e_ift, e_iff, e_not, e_ln, e_lnT, e_cp, e_cvi, e_ex20, e_ex21, e_ex30, e_ex31, e_ex32, e_add, e_sub, e_mul, e_quo, e_rem, e_and, e_or, e_xor, e_shl, e_shr, e_eql, e_neq, e_lss, e_leq, e_gtr, e_geq, e_beq, e_bne, e_peq1, e_peq2, e_pne1, e_pne2, e_zeq1, e_zeq2, e_zne1, e_zne2, e_feq1, e_fne1, e_feq2, e_fne2, e_seq, e_sne, e_ta1, e_ta2, Nat.zero_add, Nat.add_zero, Bool.not_true, Bool.not_false]
  refine ⟨I o.off, fun w1 hJ => by rw [e_gdff]; exact ld1_r (hJ.row' R.r3) rfl ⟨rfl, hJ⟩, ?_⟩
  try simp only [e_fd, e_nck, e_pkt, e_pkf, e_gdtt, e_gdtf, e_gdft, e_gdff, e_ift, e_iff, e_not, e_ln, e_lnT, e_cp, e_cvi, e_ex20, e_ex21, e_ex30, e_ex31, e_ex32, e_add, e_sub, e_mul, e_quo, e_rem, e_and, e_or, e_xor, e_shl, e_shr, e_eql, e_neq, e_lss, e_leq, e_gtr, e_geq, e_beq, e_bne, e_peq1, e_peq2, e_pne1, e_pne2, e_zeq1, e_zeq2, e_zne1, e_zne2, e_feq1, e_fne1, e_feq2, e_fne2, e_seq, e_sne, e_ta1, e_ta2, Nat.zero_add, Nat.add_zero, Bool.not_true, Bool.not_false]
  refine ⟨I o.width, fun w1 hJ => by rw [e_gdff]; exact ld1_r (hJ.row' R.r3) rfl ⟨rfl, hJ⟩, ?_⟩
  refine ⟨.bool (decide (FitsP s.work.length o.off o.width)), fun w1 hJ => by rw [e_gdff]; exact inside_ok (by omega) ⟨rfl, hJ⟩, ?_⟩
  try simp only [e_fd, e_nck, e_pkt, e_pkf, e_gdtt, e_gdtf, e_gdft, e_gdff, e_ift, e_iff, e_not, e_ln, e_lnT, e_cp, e_cvi, e_ex20, e_ex21, e_ex30, e_ex31, e_ex32, e_add, e_sub, e_mul, e_quo, e_rem, e_and, e_or, e_xor, e_shl, e_shr, e_eql, e_neq, e_lss, e_leq, e_gtr, e_geq, e_beq, e_bne, e_peq1, e_peq2, e_pne1, e_pne2, e_zeq1, e_zeq2, e_zne1, e_zne2, e_feq1, e_fne1, e_feq2, e_fne2, e_seq, e_sne, e_ta1, e_ta2, Nat.zero_add, Nat.add_zero, Bool.not_true, Bool.not_false]
  intro w1 hJ
  by_cases hf : ¬ FitsP s.work.length o.off o.width
  · rw [decide_eq_false hf]
    exact no hJ (fun q => hf q.2)
  have hf : FitsP s.work.length o.off o.width := Decidable.not_not.1 hf
  rw [decide_eq_true hf]
  have hf' := hf
  obtain ⟨f1, f2, f3, f4⟩ := hf'
  unfold s14_p11
  simp only [Bool.not_true, e_fd, e_nck, e_pkt, e_pkf, e_gdtt, e_gdtf, e_gdft, e_gdff, e_ift, e_iff, e_not, e_ln, e_lnT, e_cp, e_cvi, e_ex20, e_ex21, e_ex30, e_ex31, e_ex32, e_add, e_sub, e_mul, e_quo, e_rem, e_and, e_or, e_xor, e_shl, e_shr, e_eql, e_neq, e_lss, e_leq, e_gtr, e_geq, e_beq, e_bne, e_peq1, e_peq2, e_pne1, e_pne2, e_zeq1, e_zeq2, e_zne1, e_zne2, e_feq1, e_fne1, e_feq2, e_fne2, e_seq, e_sne, e_ta1, e_ta2, Nat.zero_add, Nat.add_zero, Bool.not_true, Bool.not_false]
  have hw2 : 2 ≤ o.width ∧ o.width ≤ 8 := by rcases hw with q | q | q <;> omega
  unfold s14_p10 s14_p10_d
  have k2 : Kp (fun _ => False) w (drw w1) := hJ.trans kp_drw
  generalize drw w1 = w2 at k2 ⊢
  have R2 := R.kp' k2
  try simp only [e_fd, e_nck, e_pkt, e_pkf, e_gdtt, e_gdtf, e_gdft, e_gdff, e_ift, e_iff, e_not, e_ln, e_lnT, e_cp, e_cvi, e_ex20, e_ex21, e_ex30, e_ex31, e_ex32, e_add, e_sub, e_mul, e_quo, e_rem, e_and, e_or, e_xor, e_shl, e_shr, e_eql, e_neq, e_lss, e_leq, e_gtr, e_geq, e_beq, e_bne, e_peq1, e_peq2, e_pne1, e_pne2, e_zeq1, e_zeq2, e_zne1, e_zne2, e_feq1, e_fne1, e_feq2, e_fne2, e_seq, e_sne, e_ta1, e_ta2, Nat.zero_add, Nat.add_zero, Bool.not_true, Bool.not_false]
  refine ld1_r R2.m.row rfl ?_
  try simp only [e_fd, e_nck, e_pkt, e_pkf, e_gdtt, e_gdtf, e_gdft, e_gdff, e_ift, e_iff, e_not, e_ln, e_lnT, e_cp, e_cvi, e_ex20, e_ex21, e_ex30, e_ex31, e_ex32, e_add, e_sub, e_mul, e_quo, e_rem, e_and, e_or, e_xor, e_shl, e_shr, e_eql, e_neq, e_lss, e_leq, e_gtr, e_geq, e_beq, e_bne, e_peq1, e_peq2, e_pne1, e_pne2, e_zeq1, e_zeq2, e_zne1, e_zne2, e_feq1, e_fne1, e_feq2, e_fne2, e_seq, e_sne, e_ta1, e_ta2, Nat.zero_add, Nat.add_zero, Bool.not_true, Bool.not_false]
  refine ld1_r R2.r3 rfl ?_
  refine R2.m.wbs.takeZ (n := o.off.toNat) (by omega) (by omega) fun v1 hv1 => ?_
  have ht : (s.work.take o.off.toNat).length = o.off.toNat := by rw [List.length_take]; omega
  refine copy_ok (hv1 w2 R2.m.wbs) (by omega) fun w3 b3 v3 s3 hb3 hk3 => ?_
  have R3 := R2.kp' hk3
  have sz2 := R2.kp.size
  unfold s14_p9
  try simp only [e_fd, e_nck, e_pkt, e_pkf, e_gdtt, e_gdtf, e_gdft, e_gdff, e_ift, e_iff, e_not, e_ln, e_lnT, e_cp, e_cvi, e_ex20, e_ex21, e_ex30, e_ex31, e_ex32, e_add, e_sub, e_mul, e_quo, e_rem, e_and, e_or, e_xor, e_shl, e_shr, e_eql, e_neq, e_lss, e_leq, e_gtr, e_geq, e_beq, e_bne, e_peq1, e_peq2, e_pne1, e_pne2, e_zeq1, e_zeq2, e_zne1, e_zne2, e_feq1, e_fne1, e_feq2, e_fne2, e_seq, e_sne, e_ta1, e_ta2, Nat.zero_add, Nat.add_zero, Bool.not_true, Bool.not_false]
  refine ld1_r R3.r3 rfl ?_
  try simp only [e_fd, e_nck, e_pkt, e_pkf, e_gdtt, e_gdtf, e_gdft, e_gdff, e_ift, e_iff, e_not, e_ln, e_lnT, e_cp, e_cvi, e_ex20, e_ex21, e_ex30, e_ex31, e_ex32, e_add, e_sub, e_mul, e_quo, e_rem, e_and, e_or, e_xor, e_shl, e_shr, e_eql, e_neq, e_lss, e_leq, e_gtr, e_geq, e_beq, e_bne, e_peq1, e_peq2, e_pne1, e_pne2, e_zeq1, e_zeq2, e_zne1, e_zne2, e_feq1, e_fne1, e_feq2, e_fne2, e_seq, e_sne, e_ta1, e_ta2, Nat.zero_add, Nat.add_zero, Bool.not_true, Bool.not_false]
  refine ld1_r R3.r3 rfl ?_
  try simp only [e_fd, e_nck, e_pkt, e_pkf, e_gdtt, e_gdtf, e_gdft, e_gdff, e_ift, e_iff, e_not, e_ln, e_lnT, e_cp, e_cvi, e_ex20, e_ex21, e_ex30, e_ex31, e_ex32, e_add, e_sub, e_mul, e_quo, e_rem, e_and, e_or, e_xor, e_shl, e_shr, e_eql, e_neq, e_lss, e_leq, e_gtr, e_geq, e_beq, e_bne, e_peq1, e_peq2, e_pne1, e_pne2, e_zeq1, e_zeq2, e_zne1, e_zne2, e_feq1, e_fne1, e_feq2, e_fne2, e_seq, e_sne, e_ta1, e_ta2, Nat.zero_add, Nat.add_zero, Bool.not_true, Bool.not_false]
  refine ld1_r R3.r3 rfl ?_
  have ew : o.width = ((o.width.toNat : Nat) : Int) := by omega
  have dg : ∀ {Z : Value → World → Prop} {u : World}, (∀ w' b, Row w' b 5 ((enc o.width o.little o.val).map U8) → u.heap.size ≤ b → Kp (fun _ => False) u w' → Z (sv b 0 o.width.toNat o.width.toNat) w') → cl Try.prog 23 #[.int .u64 o.val, I o.width, .bool o.little] Z u := fun {Z u} hZ => by
    rw [show I o.width = I ((o.width.toNat : Nat) : Int) by rw [← ew]]
    refine digits_ok (n := o.width.toNat) wf.val (by omega) fun w' b r hb hk' => ?_
    rw [digE_enc hw] at r
    exact hZ w' b r hb hk'
  have el := enc_len (little := o.little) (z := o.val) hw
  refine dg fun w4 b4 r4 hb4 hk4 => ?_
  have R4 := R3.kp' hk4
  have d4 := mv_row r4 enc_by (by omega)
  rw [show (enc o.width o.little o.val).length = o.width.toNat by omega] at d4
  have eby : By (enc o.width o.little o.val) := enc_by
  refine appV (F := U8) (fun _ => rfl) (s3.kp' hk4) d4.bs.vs (by omega) (by omega) fun w5 v5 ob5 s5 hk5 ho5 => ?_
  have sz3 := R3.kp.size
  have hob5 : ∃ b5, ob5 = some b5 ∧ w2.heap.size ≤ b5 := by
    have := hk3.size
    have := hk4.size
    rcases ho5 with q | ⟨c, q, hc⟩
    · exact ⟨_, q, hb3⟩
    · exact ⟨c, q, by omega⟩
  obtain ⟨b5, rfl, hb5⟩ := hob5
  have k25 : Kp (fun _ => False) w2 w5 := (hk3.trans hk4).then hk5 (fun k hk (q : some _ = some k) => by cases q; omega)
  have R5 := R2.kp' k25
  have s5' : Sl u1 1 w5 5 (some b5) v5 (s.work.take o.off.toNat ++ enc o.width o.little o.val) := s5
  unfold s14_p8 s14_p8_d
  have kd : Kp (fun _ => False) w5 (drw w5) := kp_drw
  generalize drw w5 = w6 at kd ⊢
  have R6 := R5.kp' kd
  have s6 := s5'.kp' kd
  try simp only [e_fd, e_nck, e_pkt, e_pkf, e_gdtt, e_gdtf, e_gdft, e_gdff, e_ift, e_iff, e_not, e_ln, e_lnT, e_cp, e_cvi, e_ex20, e_ex21, e_ex30, e_ex31, e_ex32, e_add, e_sub, e_mul, e_quo, e_rem, e_and, e_or, e_xor, e_shl, e_shr, e_eql, e_neq, e_lss, e_leq, e_gtr, e_geq, e_beq, e_bne, e_peq1, e_peq2, e_pne1, e_pne2, e_zeq1, e_zeq2, e_zne1, e_zne2, e_feq1, e_fne1, e_feq2, e_fne2, e_seq, e_sne, e_ta1, e_ta2, Nat.zero_add, Nat.add_zero, Bool.not_true, Bool.not_false]
  refine ld1_r R6.m.row rfl ?_
  try simp only [e_fd, e_nck, e_pkt, e_pkf, e_gdtt, e_gdtf, e_gdft, e_gdff, e_ift, e_iff, e_not, e_ln, e_lnT, e_cp, e_cvi, e_ex20, e_ex21, e_ex30, e_ex31, e_ex32, e_add, e_sub, e_mul, e_quo, e_rem, e_and, e_or, e_xor, e_shl, e_shr, e_eql, e_neq, e_lss, e_leq, e_gtr, e_geq, e_beq, e_bne, e_peq1, e_peq2, e_pne1, e_pne2, e_zeq1, e_zeq2, e_zne1, e_zne2, e_feq1, e_fne1, e_feq2, e_fne2, e_seq, e_sne, e_ta1, e_ta2, Nat.zero_add, Nat.add_zero, Bool.not_true, Bool.not_false]
  refine ld1_r R6.r3 rfl ?_
  try simp only [e_fd, e_nck, e_pkt, e_pkf, e_gdtt, e_gdtf, e_gdft, e_gdff, e_ift, e_iff, e_not, e_ln, e_lnT, e_cp, e_cvi, e_ex20, e_ex21, e_ex30, e_ex31, e_ex32, e_add, e_sub, e_mul, e_quo, e_rem, e_and, e_or, e_xor, e_shl, e_shr, e_eql, e_neq, e_lss, e_leq, e_gtr, e_geq, e_beq, e_bne, e_peq1, e_peq2, e_pne1, e_pne2, e_zeq1, e_zeq2, e_zne1, e_zne2, e_feq1, e_fne1, e_feq2, e_fne2, e_seq, e_sne, e_ta1, e_ta2, Nat.zero_add, Nat.add_zero, Bool.not_true, Bool.not_false]
  refine ld1_r R6.r3 rfl ?_
  try simp only [e_fd, e_nck, e_pkt, e_pkf, e_gdtt, e_gdtf, e_gdft, e_gdff, e_ift, e_iff, e_not, e_ln, e_lnT, e_cp, e_cvi, e_ex20, e_ex21, e_ex30, e_ex31, e_ex32, e_add, e_sub, e_mul, e_quo, e_rem, e_and, e_or, e_xor, e_shl, e_shr, e_eql, e_neq, e_lss, e_leq, e_gtr, e_geq, e_beq, e_bne, e_peq1, e_peq2, e_pne1, e_pne2, e_zeq1, e_zeq2, e_zne1, e_zne2, e_feq1, e_fne1, e_feq2, e_fne2, e_seq, e_sne, e_ta1, e_ta2, Nat.zero_add, Nat.add_zero, Bool.not_true, Bool.not_false]
  rw [wrap64_id (by omega) (by omega)]
  refine R6.m.wbs.dropZ (n := o.off.toNat + o.width.toNat) (by omega) (by omega) fun v7 hv7 => ?_
  have hll : (s.work.take o.off.toNat ++ enc o.width o.little o.val).length = o.off.toNat + o.width.toNat := by rw [List.length_append, ht]; omega
  refine appV (F := U8) (fun _ => rfl) s6 (hv7 w6 R6.m.wbs).vs (by rw [hll, List.length_drop]; omega) (by rw [hll, List.length_drop]; omega) fun w8 v8 ob8 s8 hk8 ho8 => ?_
  have sz6 := (k25.trans kd).size
  have hob8 : ∃ b8, ob8 = some b8 ∧ w2.heap.size ≤ b8 := by
    rcases ho8 with q | ⟨c, q, hc⟩
    · exact ⟨_, q, hb5⟩
    · exact ⟨c, q, by omega⟩
  obtain ⟨b8, rfl, hb8⟩ := hob8
  have k28 : Kp (fun _ => False) w2 w8 := (k25.trans kd).then hk8 (fun k hk (q : some _ = some k) => by cases q; omega)
  have R8 := R2.kp' k28
  have s8' : Sl u1 1 w8 5 (some b8) v8 (s.work.take o.off.toNat ++ enc o.width o.little o.val ++ s.work.drop (o.off.toNat + o.width.toNat)) := s8
  rw [List.append_assoc, ← List.drop_drop] at s8'
  refine R8.work s8' (by omega) ((R.m.wby.take _).app (eby.app ((R.m.wby.drop _).drop _))) (by rw [List.length_append, List.length_append, List.length_drop, List.length_drop, ht]; omega) fun w9 R9 hk9 => ?_
  unfold s14_p7
  refine bdq_r (l := [.bool true, .int .u64 0, .slice none 0 0]) rfl ?_
  refine R9.nil hK ?_
  unfold StepR
  rw [if_neg (by omega), if_neg (by omega), if_pos hk]
  exact ⟨.inl ⟨hw, hf, rfl, rfl⟩, rfl, rfl⟩
end
end Go.Proofs.Qxb6500898a
