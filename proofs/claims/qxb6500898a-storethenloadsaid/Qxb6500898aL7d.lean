import Derived.Test.Qxb6500898aL7c
namespace Go.Proofs.Qxb6500898a
open Go.Sh Go.RowKit
set_option linter.unusedVariables false
set_option linter.unusedSimpArgs false

section
variable {W w w' w0 w2 : World} {v d t wv rv dv t0 t1 : Value} {ob wob wob0 : Option Nat} {mb b b2 e m n : Nat} {xs ys zs pr da : List Int} {K : Value → World → Prop} {B1 : List Value → World → Prop} {s s' s0 : Mst} {o : Op} {S S' : Nat → Prop} {L M : List Value} {off width z : Int} {little : Bool}
theorem law7_inner {j t5 n0 : Nat} {t11 t12 : Value} (h : LZ W w mb wob wv rv s j) (hj : j ≤ 65536) (hs : s.work.length ≤ 100000000000) (hwf : o.Wf) (r5 : Row w t5 34 (opc dv o)) (hr : Row w b 3 [I 2, I 4, I 8])
    (hB : ∀ w', LZ W w' mb wob wv rv s j → B1 [Pt mb 0, t11, t12, I ((n0 + 1 : Nat) : Int)] w') (hn0 : n0 ≤ 65536) : s7_p5 K B1 (Pt mb 0) (Pt t5 0) t11 t12 (I (n0 : Nat)) (sv b 0 3 3) (I (3 : Nat)) (I (0 : Nat)) w := by
  unfold s7_p5
  refine ⟨fun n l w' => ∃ i : Nat, n + i = 3 ∧ l = [Pt mb 0, Pt t5 0, t11, t12, I (n0 : Nat), sv b 0 3 3, I (3 : Nat), I (i : Nat)] ∧ Kp (fun _ => False) w w', 3, ⟨0, rfl, rfl, Kp.refl _ _⟩, ?_⟩
  rintro n l w1 ⟨i, hn, rfl, hk1⟩
  rw [s7_p5_Fe]
  unfold s7_p4
  try simp only [e_fd, e_nck, e_pkt, e_pkf, e_gdtt, e_gdtf, e_gdft, e_gdff, e_ift, e_iff, e_not, e_ln, e_lnT, e_cp, e_cvi, e_ex20, e_ex21, e_ex30, e_ex31, e_ex32, e_add, e_sub, e_mul, e_quo, e_rem, e_and, e_or, e_xor, e_shl, e_shr, e_eql, e_neq, e_lss, e_leq, e_gtr, e_geq, e_beq, e_bne, e_peq1, e_peq2, e_pne1, e_pne2, e_zeq1, e_zeq2, e_zne1, e_zne2, e_feq1, e_fne1, e_feq2, e_fne2, e_seq, e_sne, e_ta1, e_ta2, Nat.zero_add, Nat.add_zero, Bool.not_true, Bool.not_false]
  have h1 := h.kp' hk1
  by_cases hi : i < 3
  · have hi' : ((i : Nat) : Int) < ((3 : Nat) : Int) := by omega
    simp only [hi', decide_true, e_fd, e_nck, e_pkt, e_pkf, e_gdtt, e_gdtf, e_gdft, e_gdff, e_ift, e_iff, e_not, e_ln, e_lnT, e_cp, e_cvi, e_ex20, e_ex21, e_ex30, e_ex31, e_ex32, e_add, e_sub, e_mul, e_quo, e_rem, e_and, e_or, e_xor, e_shl, e_shr, e_eql, e_neq, e_lss, e_leq, e_gtr, e_geq, e_beq, e_bne, e_peq1, e_peq2, e_pne1, e_pne2, e_zeq1, e_zeq2, e_zne1, e_zne2, e_feq1, e_fne1, e_feq2, e_fne2, e_seq, e_sne, e_ta1, e_ta2, Nat.zero_add, Nat.add_zero, Bool.not_true, Bool.not_false]
    refine ix_sv hi rfl ?_
    have hgi : ∃ width, [I 2, I 4, I 8][0 + i]? = some (I width) ∧ Wid width := by
      have : i = 0 ∨ i = 1 ∨ i = 2 := by omega
      rcases this with rfl | rfl | rfl
      · exact ⟨_, rfl, .inl rfl⟩
      · exact ⟨_, rfl, .inr (.inl rfl)⟩
      · exact ⟨_, rfl, .inr (.inr rfl)⟩
    obtain ⟨width, hgi, hw⟩ := hgi
    refine ld1_r (hk1.row' hr) hgi ?_
    try simp only [e_fd, e_nck, e_pkt, e_pkf, e_gdtt, e_gdtf, e_gdft, e_gdff, e_ift, e_iff, e_not, e_ln, e_lnT, e_cp, e_cvi, e_ex20, e_ex21, e_ex30, e_ex31, e_ex32, e_add, e_sub, e_mul, e_quo, e_rem, e_and, e_or, e_xor, e_shl, e_shr, e_eql, e_neq, e_lss, e_leq, e_gtr, e_geq, e_beq, e_bne, e_peq1, e_peq2, e_pne1, e_pne2, e_zeq1, e_zeq2, e_zne1, e_zne2, e_feq1, e_fne1, e_feq2, e_fne2, e_seq, e_sne, e_ta1, e_ta2, Nat.zero_add, Nat.add_zero, Bool.not_true, Bool.not_false]
    refine ld1_r h1.ma.row rfl ?_
    try simp only [e_fd, e_nck, e_pkt, e_pkf, e_gdtt, e_gdtf, e_gdft, e_gdff, e_ift, e_iff, e_not, e_ln, e_lnT, e_cp, e_cvi, e_ex20, e_ex21, e_ex30, e_ex31, e_ex32, e_add, e_sub, e_mul, e_quo, e_rem, e_and, e_or, e_xor, e_shl, e_shr, e_eql, e_neq, e_lss, e_leq, e_gtr, e_geq, e_beq, e_bne, e_peq1, e_peq2, e_pne1, e_pne2, e_zeq1, e_zeq2, e_zne1, e_zne2, e_feq1, e_fne1, e_feq2, e_fne2, e_seq, e_sne, e_ta1, e_ta2, Nat.zero_add, Nat.add_zero, Bool.not_true, Bool.not_false]
    refine ld1_r (hk1.row' r5) rfl ?_
    try simp only [e_fd, e_nck, e_pkt, e_pkf, e_gdtt, e_gdtf, e_gdft, e_gdff, e_ift, e_iff, e_not, e_ln, e_lnT, e_cp, e_cvi, e_ex20, e_ex21, e_ex30, e_ex31, e_ex32, e_add, e_sub, e_mul, e_quo, e_rem, e_and, e_or, e_xor, e_shl, e_shr, e_eql, e_neq, e_lss, e_leq, e_gtr, e_geq, e_beq, e_bne, e_peq1, e_peq2, e_pne1, e_pne2, e_zeq1, e_zeq2, e_zne1, e_zne2, e_feq1, e_fne1, e_feq2, e_fne2, e_seq, e_sne, e_ta1, e_ta2, Nat.zero_add, Nat.add_zero, Bool.not_true, Bool.not_false]
    refine ld1_r (hk1.row' r5) rfl ?_
    refine storeHolds_ok h1.ma.wbs hs hw hwf.val fun w2 hk2 => ?_
    simp only [Bool.not_true, e_fd, e_nck, e_pkt, e_pkf, e_gdtt, e_gdtf, e_gdft, e_gdff, e_ift, e_iff, e_not, e_ln, e_lnT, e_cp, e_cvi, e_ex20, e_ex21, e_ex30, e_ex31, e_ex32, e_add, e_sub, e_mul, e_quo, e_rem, e_and, e_or, e_xor, e_shl, e_shr, e_eql, e_neq, e_lss, e_leq, e_gtr, e_geq, e_beq, e_bne, e_peq1, e_peq2, e_pne1, e_pne2, e_zeq1, e_zeq2, e_zne1, e_zne2, e_feq1, e_fne1, e_feq2, e_fne2, e_seq, e_sne, e_ta1, e_ta2, Nat.zero_add, Nat.add_zero, Bool.not_true, Bool.not_false]
    rw [wrap64_id (by omega) (by omega)]
    exact ⟨n - 1, by omega, i + 1, by omega, by simp, hk1.trans hk2⟩
  · have hi' : ¬ ((i : Nat) : Int) < ((3 : Nat) : Int) := by omega
    simp only [hi', decide_false, e_fd, e_nck, e_pkt, e_pkf, e_gdtt, e_gdtf, e_gdft, e_gdff, e_ift, e_iff, e_not, e_ln, e_lnT, e_cp, e_cvi, e_ex20, e_ex21, e_ex30, e_ex31, e_ex32, e_add, e_sub, e_mul, e_quo, e_rem, e_and, e_or, e_xor, e_shl, e_shr, e_eql, e_neq, e_lss, e_leq, e_gtr, e_geq, e_beq, e_bne, e_peq1, e_peq2, e_pne1, e_pne2, e_zeq1, e_zeq2, e_zne1, e_zne2, e_feq1, e_fne1, e_feq2, e_fne2, e_seq, e_sne, e_ta1, e_ta2, Nat.zero_add, Nat.add_zero, Bool.not_true, Bool.not_false]
    unfold s7_p3
    try simp only [e_fd, e_nck, e_pkt, e_pkf, e_gdtt, e_gdtf, e_gdft, e_gdff, e_ift, e_iff, e_not, e_ln, e_lnT, e_cp, e_cvi, e_ex20, e_ex21, e_ex30, e_ex31, e_ex32, e_add, e_sub, e_mul, e_quo, e_rem, e_and, e_or, e_xor, e_shl, e_shr, e_eql, e_neq, e_lss, e_leq, e_gtr, e_geq, e_beq, e_bne, e_peq1, e_peq2, e_pne1, e_pne2, e_zeq1, e_zeq2, e_zne1, e_zne2, e_feq1, e_fne1, e_feq2, e_fne2, e_seq, e_sne, e_ta1, e_ta2, Nat.zero_add, Nat.add_zero, Bool.not_true, Bool.not_false]
    refine ld1_r h1.ma.row rfl ?_
    refine wordsHold_ok h1.ma.wbs hs fun w2 hk2 => ?_
    simp only [Bool.not_true, e_fd, e_nck, e_pkt, e_pkf, e_gdtt, e_gdtf, e_gdft, e_gdff, e_ift, e_iff, e_not, e_ln, e_lnT, e_cp, e_cvi, e_ex20, e_ex21, e_ex30, e_ex31, e_ex32, e_add, e_sub, e_mul, e_quo, e_rem, e_and, e_or, e_xor, e_shl, e_shr, e_eql, e_neq, e_lss, e_leq, e_gtr, e_geq, e_beq, e_bne, e_peq1, e_peq2, e_pne1, e_pne2, e_zeq1, e_zeq2, e_zne1, e_zne2, e_feq1, e_fne1, e_feq2, e_fne2, e_seq, e_sne, e_ta1, e_ta2, Nat.zero_add, Nat.add_zero, Bool.not_true, Bool.not_false]
    unfold s7_p2
    try simp only [e_fd, e_nck, e_pkt, e_pkf, e_gdtt, e_gdtf, e_gdft, e_gdff, e_ift, e_iff, e_not, e_ln, e_lnT, e_cp, e_cvi, e_ex20, e_ex21, e_ex30, e_ex31, e_ex32, e_add, e_sub, e_mul, e_quo, e_rem, e_and, e_or, e_xor, e_shl, e_shr, e_eql, e_neq, e_lss, e_leq, e_gtr, e_geq, e_beq, e_bne, e_peq1, e_peq2, e_pne1, e_pne2, e_zeq1, e_zeq2, e_zne1, e_zne2, e_feq1, e_fne1, e_feq2, e_fne2, e_seq, e_sne, e_ta1, e_ta2, Nat.zero_add, Nat.add_zero, Bool.not_true, Bool.not_false]
    rw [wrap64_id (by omega) (by omega)]
    exact hB w2 (h1.kp' hk2)
theorem law7_loop {ops : List Op} (hs : Scr W v ops) (hl : ops.length ≤ 65536) (hall : ∀ x ∈ ops, x.data.length ≤ 65536) (h : LZ W w mb wob wv rv s 0) (hK : ∀ w', Kp (fun _ => False) W w' → K (.bool true) w') : s7_p8 K (Pt mb 0) v (I ops.length) (I (0 : Nat)) w := by
  unfold s7_p8
  refine ⟨fun n l w' => ∃ (j : Nat) (wob : Option Nat) (wv rv : Value) (s : Mst), n + j = ops.length ∧ l = [Pt mb 0, v, I ops.length, I (j : Nat)] ∧ LZ W w' mb wob wv rv s j, ops.length, ⟨0, wob, wv, rv, s, rfl, rfl, h⟩, ?_⟩
  rintro n l w1 ⟨j, wob, wv, rv, s, hn, rfl, h1⟩
  rw [s7_p8_Fe]
  unfold s7_p7
  try simp only [e_fd, e_nck, e_pkt, e_pkf, e_gdtt, e_gdtf, e_gdft, e_gdff, e_ift, e_iff, e_not, e_ln, e_lnT, e_cp, e_cvi, e_ex20, e_ex21, e_ex30, e_ex31, e_ex32, e_add, e_sub, e_mul, e_quo, e_rem, e_and, e_or, e_xor, e_shl, e_shr, e_eql, e_neq, e_lss, e_leq, e_gtr, e_geq, e_beq, e_bne, e_peq1, e_peq2, e_pne1, e_pne2, e_zeq1, e_zeq2, e_zne1, e_zne2, e_feq1, e_fne1, e_feq2, e_fne2, e_seq, e_sne, e_ta1, e_ta2, Nat.zero_add, Nat.add_zero, Bool.not_true, Bool.not_false]
  by_cases hj : j < ops.length
  · have hj' : ((j : Nat) : Int) < ((ops.length : Nat) : Int) := by omega
    simp only [hj', decide_true, e_fd, e_nck, e_pkt, e_pkf, e_gdtt, e_gdtf, e_gdft, e_gdff, e_ift, e_iff, e_not, e_ln, e_lnT, e_cp, e_cvi, e_ex20, e_ex21, e_ex30, e_ex31, e_ex32, e_add, e_sub, e_mul, e_quo, e_rem, e_and, e_or, e_xor, e_shl, e_shr, e_eql, e_neq, e_lss, e_leq, e_gtr, e_geq, e_beq, e_bne, e_peq1, e_peq2, e_pne1, e_pne2, e_zeq1, e_zeq2, e_zne1, e_zne2, e_feq1, e_fne1, e_feq2, e_fne2, e_seq, e_sne, e_ta1, e_ta2, Nat.zero_add, Nat.add_zero, Bool.not_true, Bool.not_false]
    unfold s7_p6
    refine h1.step hs hl hall hj fun w2 wob2 wv2 rv2 s2 t5 dv h2 r5 hd hwf hst hz => ?_
    have hlen := h2.len
    refine bsq_r (l := [I 2, I 4, I 8]) rfl fun w3 r3 hk3 hz3 => ?_
    refine law7_inner (t11 := v) (t12 := I ops.length) (h2.kp' hk3) (by omega) (by omega) hwf (hk3.row' r5) r3 (fun w4 h4 => ?_) (by omega)
    exact ⟨n - 1, by omega, j + 1, wob2, wv2, rv2, s2, by omega, rfl, h4⟩
  · have hj' : ¬ ((j : Nat) : Int) < ((ops.length : Nat) : Int) := by omega
    simp only [hj', decide_false, e_fd, e_nck, e_pkt, e_pkf, e_gdtt, e_gdtf, e_gdft, e_gdff, e_ift, e_iff, e_not, e_ln, e_lnT, e_cp, e_cvi, e_ex20, e_ex21, e_ex30, e_ex31, e_ex32, e_add, e_sub, e_mul, e_quo, e_rem, e_and, e_or, e_xor, e_shl, e_shr, e_eql, e_neq, e_lss, e_leq, e_gtr, e_geq, e_beq, e_bne, e_peq1, e_peq2, e_pne1, e_pne2, e_zeq1, e_zeq2, e_zne1, e_zne2, e_feq1, e_fne1, e_feq2, e_fne2, e_seq, e_sne, e_ta1, e_ta2, Nat.zero_add, Nat.add_zero, Bool.not_true, Bool.not_false]
    unfold s7_p1
    exact hK w1 h1.ma.kp
theorem law7_ok {ops : List Op} (hs : Scr W v ops) : cl Try.prog 7 #[v] (fun r w' => r = .bool true ∧ Below W.heap.size W w') W := by
  apply c7
  unfold s7_p9
  refine small_ok hs (Below.refl _ _) fun r hr => ?_
  cases r with
  | false =>
    simp only [Bool.not_false, e_fd, e_nck, e_pkt, e_pkf, e_gdtt, e_gdtf, e_gdft, e_gdff, e_ift, e_iff, e_not, e_ln, e_lnT, e_cp, e_cvi, e_ex20, e_ex21, e_ex30, e_ex31, e_ex32, e_add, e_sub, e_mul, e_quo, e_rem, e_and, e_or, e_xor, e_shl, e_shr, e_eql, e_neq, e_lss, e_leq, e_gtr, e_geq, e_beq, e_bne, e_peq1, e_peq2, e_pne1, e_pne2, e_zeq1, e_zeq2, e_zne1, e_zne2, e_feq1, e_fne1, e_feq2, e_fne2, e_seq, e_sne, e_ta1, e_ta2, Nat.zero_add, Nat.add_zero, Bool.not_true, Bool.not_false]
    exact ⟨trivial, Below.refl _ _⟩
  | true =>
    obtain ⟨hl, hall⟩ := hr rfl
    simp only [Bool.not_true, e_fd, e_nck, e_pkt, e_pkf, e_gdtt, e_gdtf, e_gdft, e_gdff, e_ift, e_iff, e_not, e_ln, e_lnT, e_cp, e_cvi, e_ex20, e_ex21, e_ex30, e_ex31, e_ex32, e_add, e_sub, e_mul, e_quo, e_rem, e_and, e_or, e_xor, e_shl, e_shr, e_eql, e_neq, e_lss, e_leq, e_gtr, e_geq, e_beq, e_bne, e_peq1, e_peq2, e_pne1, e_pne2, e_zeq1, e_zeq2, e_zne1, e_zne2, e_feq1, e_fne1, e_feq2, e_fne2, e_seq, e_sne, e_ta1, e_ta2, Nat.zero_add, Nat.add_zero, Bool.not_true, Bool.not_false]
    refine nw_r fun w1 r1 hk1 hz1 => ?_
    refine hs.ln ?_
    exact law7_loop hs hl hall (LZ.start hk1 r1 (Nat.le_refl _)) fun w' hk => ⟨rfl, hk.below'⟩
theorem law7_walk {ops : List Op} (hs : Scr W v ops) : Calls Try.prog 7 #[v] W fun e w' => e = .returned (.bool true) ∧ Below W.heap.size W w' :=
  Calls.mono (law7_ok hs) fun e w' ⟨r, he, hr, hb⟩ => ⟨by rw [he, hr], hb⟩
end
end Go.Proofs.Qxb6500898a
