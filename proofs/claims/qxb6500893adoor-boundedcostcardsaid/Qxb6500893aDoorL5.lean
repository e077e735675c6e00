import Derived.Test.Qxb6500893aDoorA15
namespace Go.Proofs.Qxb6500893aDoor
open Go.Sh Go.RowKit
set_option linter.unusedVariables false
set_option linter.unusedSimpArgs false

theorem fi41_4 : fiK Tryd.prog 41 4 = some 7 := by kernel_rfl
theorem fi41_0 : fiK Tryd.prog 41 0 = some 0 := by kernel_rfl
theorem outV_7 {code id : Int} {at_ st : Nat} {q : Q4} {sv : Value} : (outV code id at_ q st sv).toArray[7]? = some (U64 st) := rfl
section
variable {W w w' : World} {v : Value} {ops : List Op} {K : Value → World → Prop} {s : Ws} {m : Wm} {wdb : Nat}
theorem law5_loop (hs : Scr W v ops) (hl : ops.length ≤ 65536) (h : LSt W w m s) (hg : LiveIn s.L) (hL : s.L = []) (hK : ∀ w', Below W.heap.size W w' → K (.bool true) w') : s5_p7 K (P m.wdb 0) v (I ops.length) (I 0) w := by
  unfold s5_p7
  refine ⟨fun n l w' => ∃ (j : Nat) (m' : Wm) (s' : Ws), j ≤ ops.length ∧ n + j = ops.length ∧ l = [P m'.wdb 0, v, I ops.length, I j] ∧ LSt W w' m' s' ∧ LiveIn s'.L ∧ s'.L.length ≤ j,
    ops.length, ⟨0, m, s, Nat.zero_le _, rfl, rfl, h, hg, by rw [hL]; exact Nat.le_refl _⟩, ?_⟩
  rintro n l w1 ⟨j, m1, s1, hj, hn, rfl, h1, hg1, hL1⟩
  rw [s5_p7_Fe]
  unfold s5_p6
  try simp only [e_fd, e_nck, e_pkt, e_pkf, e_gdtt, e_gdtf, e_gdft, e_gdff, e_ift, e_iff, e_not, e_ln, e_lnT, e_cp, e_cvi, e_ex20, e_ex21, e_ex30, e_ex31, e_ex32, e_add, e_sub, e_mul, e_quo, e_rem, e_and, e_or, e_xor, e_shl, e_shr, e_eql, e_neq, e_lss, e_leq, e_gtr, e_geq, e_beq, e_bne, e_peq1, e_peq2, e_pne1, e_pne2, e_zeq1, e_zeq2, e_zne1, e_zne2, e_feq1, e_fne1, e_feq2, e_fne2, e_seq, e_sne, e_ta1, e_ta2, Nat.zero_add, Nat.add_zero, Bool.not_true, Bool.not_false]
  by_cases hlt : j < ops.length
  · have hlt' : (j : Int) < ((ops.length : Nat) : Int) := by omega
    simp only [hlt', decide_true, e_fd, e_nck, e_pkt, e_pkf, e_gdtt, e_gdtf, e_gdft, e_gdff, e_ift, e_iff, e_not, e_ln, e_lnT, e_cp, e_cvi, e_ex20, e_ex21, e_ex30, e_ex31, e_ex32, e_add, e_sub, e_mul, e_quo, e_rem, e_and, e_or, e_xor, e_shl, e_shr, e_eql, e_neq, e_lss, e_leq, e_gtr, e_geq, e_beq, e_bne, e_peq1, e_peq2, e_pne1, e_pne2, e_zeq1, e_zeq2, e_zne1, e_zne2, e_feq1, e_fne1, e_feq2, e_fne2, e_seq, e_sne, e_ta1, e_ta2, Nat.zero_add, Nat.add_zero, Bool.not_true, Bool.not_false]
    unfold s5_p5
    have next : ∀ {w2 m2 s2}, m2.wdb = m1.wdb → LSt W w2 m2 s2 → LiveIn s2.L → s2.L.length ≤ j + 1 → s5_p2 K (fun l' w' => ∃ n', n' < n ∧ (fun n l w' => ∃ (j : Nat) (m' : Wm) (s' : Ws), j ≤ ops.length ∧ n + j = ops.length ∧ l = [P m'.wdb 0, v, I ops.length, I j] ∧ LSt W w' m' s' ∧ LiveIn s'.L ∧ s'.L.length ≤ j) n' l' w') (P m1.wdb 0) v (I ops.length) (I j) w2 := by
      intro w2 m2 s2 e h2 hg2 hL2
      unfold s5_p2
      try simp only [e_fd, e_nck, e_pkt, e_pkf, e_gdtt, e_gdtf, e_gdft, e_gdff, e_ift, e_iff, e_not, e_ln, e_lnT, e_cp, e_cvi, e_ex20, e_ex21, e_ex30, e_ex31, e_ex32, e_add, e_sub, e_mul, e_quo, e_rem, e_and, e_or, e_xor, e_shl, e_shr, e_eql, e_neq, e_lss, e_leq, e_gtr, e_geq, e_beq, e_bne, e_peq1, e_peq2, e_pne1, e_pne2, e_zeq1, e_zeq2, e_zne1, e_zne2, e_feq1, e_fne1, e_feq2, e_fne2, e_seq, e_sne, e_ta1, e_ta2, Nat.zero_add, Nat.add_zero, Bool.not_true, Bool.not_false]
      rw [wrap64_id (by omega) (by omega)]
      exact ⟨n - 1, by omega, j + 1, m2, s2, by omega, by omega, by rw [e]; simp, h2, hg2, hL2⟩
    refine hs.take h1.bel hlt fun w2 t5 r5 hk2 hz2 => ?_
    have h2 := h1.kp' hk2
    try simp only [e_fd, e_nck, e_pkt, e_pkf, e_gdtt, e_gdtf, e_gdft, e_gdff, e_ift, e_iff, e_not, e_ln, e_lnT, e_cp, e_cvi, e_ex20, e_ex21, e_ex30, e_ex31, e_ex32, e_add, e_sub, e_mul, e_quo, e_rem, e_and, e_or, e_xor, e_shl, e_shr, e_eql, e_neq, e_lss, e_leq, e_gtr, e_geq, e_beq, e_bne, e_peq1, e_peq2, e_pne1, e_pne2, e_zeq1, e_zeq2, e_zne1, e_zne2, e_feq1, e_fne1, e_feq2, e_fne2, e_seq, e_sne, e_ta1, e_ta2, Nat.zero_add, Nat.add_zero, Bool.not_true, Bool.not_false]
    refine ld1_r r5 rfl ?_
    unfold u8
    try simp only [e_fd, e_nck, e_pkt, e_pkf, e_gdtt, e_gdtf, e_gdft, e_gdff, e_ift, e_iff, e_not, e_ln, e_lnT, e_cp, e_cvi, e_ex20, e_ex21, e_ex30, e_ex31, e_ex32, e_add, e_sub, e_mul, e_quo, e_rem, e_and, e_or, e_xor, e_shl, e_shr, e_eql, e_neq, e_lss, e_leq, e_gtr, e_geq, e_beq, e_bne, e_peq1, e_peq2, e_pne1, e_pne2, e_zeq1, e_zeq2, e_zne1, e_zne2, e_feq1, e_fne1, e_feq2, e_fne2, e_seq, e_sne, e_ta1, e_ta2, Nat.zero_add, Nat.add_zero, Bool.not_true, Bool.not_false]
    have wf := hs.1 _ (List.getElem_mem hlt)
    generalize ops[j] = o at r5 wf ⊢
    by_cases k8 : o.kind = 8
    · have e : (((o.kind : Nat) : Int) == 8) = true := by rw [k8]; rfl
      simp only [e, e_fd, e_nck, e_pkt, e_pkf, e_gdtt, e_gdtf, e_gdft, e_gdff, e_ift, e_iff, e_not, e_ln, e_lnT, e_cp, e_cvi, e_ex20, e_ex21, e_ex30, e_ex31, e_ex32, e_add, e_sub, e_mul, e_quo, e_rem, e_and, e_or, e_xor, e_shl, e_shr, e_eql, e_neq, e_lss, e_leq, e_gtr, e_geq, e_beq, e_bne, e_peq1, e_peq2, e_pne1, e_pne2, e_zeq1, e_zeq2, e_zne1, e_zne2, e_feq1, e_fne1, e_feq2, e_fne2, e_seq, e_sne, e_ta1, e_ta2, Nat.zero_add, Nat.add_zero, Bool.not_true, Bool.not_false]
      exact next rfl h2 hg1 (by omega)
    · have e : (((o.kind : Nat) : Int) == 8) = false := by rw [beq_eq_false_iff_ne]; omega
      simp only [e, e_fd, e_nck, e_pkt, e_pkf, e_gdtt, e_gdtf, e_gdft, e_gdff, e_ift, e_iff, e_not, e_ln, e_lnT, e_cp, e_cvi, e_ex20, e_ex21, e_ex30, e_ex31, e_ex32, e_add, e_sub, e_mul, e_quo, e_rem, e_and, e_or, e_xor, e_shl, e_shr, e_eql, e_neq, e_lss, e_leq, e_gtr, e_geq, e_beq, e_bne, e_peq1, e_peq2, e_pne1, e_pne2, e_zeq1, e_zeq2, e_zne1, e_zne2, e_feq1, e_fne1, e_feq2, e_fne2, e_seq, e_sne, e_ta1, e_ta2, Nat.zero_add, Nat.add_zero, Bool.not_true, Bool.not_false]
      refine round_head h2 r5 wf (by omega) fun w3 t6 h3 r6 _ hk3 hz3 => ?_
      have hco := resF_ok hg1 h3.rng wf
      generalize resF s1.L o = c at r6 hco ⊢
      unfold s5_p4
      have h4 := h3.kp' (w' := drw w3) kp_drw
      have r64 := r6.drw
      generalize drw w3 = w4 at h4 r64 ⊢
      refine ⟨fun w' => Row w' t6 33 (cac c), r64, ?_⟩
      unfold s5_p4_d
      try simp only [e_fd, e_nck, e_pkt, e_pkf, e_gdtt, e_gdtf, e_gdft, e_gdff, e_ift, e_iff, e_not, e_ln, e_lnT, e_cp, e_cvi, e_ex20, e_ex21, e_ex30, e_ex31, e_ex32, e_add, e_sub, e_mul, e_quo, e_rem, e_and, e_or, e_xor, e_shl, e_shr, e_eql, e_neq, e_lss, e_leq, e_gtr, e_geq, e_beq, e_bne, e_peq1, e_peq2, e_pne1, e_pne2, e_zeq1, e_zeq2, e_zne1, e_zne2, e_feq1, e_fne1, e_feq2, e_fne2, e_seq, e_sne, e_ta1, e_ta2, Nat.zero_add, Nat.add_zero, Bool.not_true, Bool.not_false]
      refine ⟨u8 c.kind, fun w' hJ => ld1_r hJ rfl ⟨rfl, rfl⟩, ?_⟩
      refine ⟨.agg (cac c).toArray, fun w' hJ => ldn_r hJ (show 0 + 6 ≤ 6 by decide) ⟨rfl, rfl⟩, ?_⟩
      refine real_ok h4.wd hco (by omega) fun w5 m5 kk nb sob sv hkk wd5 st5 sl5 no5 => ?_
      have h5 := h4.st wd5 st5
      have r65 := st5.kp.row r64 (h4.wd.ntag r64 (by decide))
      refine ⟨r65, ?_⟩
      refine fi_r fi41_4 outV_7 ?_
      refine ⟨r65, ?_⟩
      refine bound_ok hco.k8 (by unfold sub64; omega) (mid_st (s := s00 s1) hkk h4.wd.arn.st) ?_
      try simp only [e_fd, e_nck, e_pkt, e_pkf, e_gdtt, e_gdtf, e_gdft, e_gdff, e_ift, e_iff, e_not, e_ln, e_lnT, e_cp, e_cvi, e_ex20, e_ex21, e_ex30, e_ex31, e_ex32, e_add, e_sub, e_mul, e_quo, e_rem, e_and, e_or, e_xor, e_shl, e_shr, e_eql, e_neq, e_lss, e_leq, e_gtr, e_geq, e_beq, e_bne, e_peq1, e_peq2, e_pne1, e_pne2, e_zeq1, e_zeq2, e_zne1, e_zne2, e_feq1, e_fne1, e_feq2, e_fne2, e_seq, e_sne, e_ta1, e_ta2, Nat.zero_add, Nat.add_zero, Bool.not_true, Bool.not_false]
      unfold s5_p3
      try simp only [e_fd, e_nck, e_pkt, e_pkf, e_gdtt, e_gdtf, e_gdft, e_gdff, e_ift, e_iff, e_not, e_ln, e_lnT, e_cp, e_cvi, e_ex20, e_ex21, e_ex30, e_ex31, e_ex32, e_add, e_sub, e_mul, e_quo, e_rem, e_and, e_or, e_xor, e_shl, e_shr, e_eql, e_neq, e_lss, e_leq, e_gtr, e_geq, e_beq, e_bne, e_peq1, e_peq2, e_pne1, e_pne2, e_zeq1, e_zeq2, e_zne1, e_zne2, e_feq1, e_fne1, e_feq2, e_fne2, e_seq, e_sne, e_ta1, e_ta2, Nat.zero_add, Nat.add_zero, Bool.not_true, Bool.not_false]
      refine next st5.wdb h5 (real_live kk nb h4.wd.ok hg1) ?_
      have := real_len (s := s1) (c := c) kk nb
      omega
  · have hlt' : ¬ (j : Int) < ((ops.length : Nat) : Int) := by omega
    simp only [hlt', decide_false, e_fd, e_nck, e_pkt, e_pkf, e_gdtt, e_gdtf, e_gdft, e_gdff, e_ift, e_iff, e_not, e_ln, e_lnT, e_cp, e_cvi, e_ex20, e_ex21, e_ex30, e_ex31, e_ex32, e_add, e_sub, e_mul, e_quo, e_rem, e_and, e_or, e_xor, e_shl, e_shr, e_eql, e_neq, e_lss, e_leq, e_gtr, e_geq, e_beq, e_bne, e_peq1, e_peq2, e_pne1, e_pne2, e_zeq1, e_zeq2, e_zne1, e_zne2, e_feq1, e_fne1, e_feq2, e_fne2, e_seq, e_sne, e_ta1, e_ta2, Nat.zero_add, Nat.add_zero, Bool.not_true, Bool.not_false]
    unfold s5_p1
    exact hK w1 h1.bel

theorem law5 (hs : Scr W v ops) (g0 : W.cell? ⟨0, 0, none⟩ = some (U32 24)) (g1 : W.cell? ⟨0, 1, none⟩ = some (U32 4040)) : cl Tryd.prog 5 #[v] (fun r w' => r = .bool true ∧ Below W.heap.size W w') W := by
  apply c5
  unfold s5_p8
  refine small_ok hs ?_
  by_cases hl : ops.length ≤ 65536
  · simp only [hl, decide_true, e_fd, e_nck, e_pkt, e_pkf, e_gdtt, e_gdtf, e_gdft, e_gdff, e_ift, e_iff, e_not, e_ln, e_lnT, e_cp, e_cvi, e_ex20, e_ex21, e_ex30, e_ex31, e_ex32, e_add, e_sub, e_mul, e_quo, e_rem, e_and, e_or, e_xor, e_shl, e_shr, e_eql, e_neq, e_lss, e_leq, e_gtr, e_geq, e_beq, e_bne, e_peq1, e_peq2, e_pne1, e_pne2, e_zeq1, e_zeq2, e_zne1, e_zne2, e_feq1, e_fne1, e_feq2, e_fne2, e_seq, e_sne, e_ta1, e_ta2, Nat.zero_add, Nat.add_zero, Bool.not_true, Bool.not_false]
    refine newWorld_ok g0 g1 (Below.refl _ _) fun w1 m A mb h1 ho1 hmd rmb hz1 hk1 => ?_
    refine hs.ln ?_
    refine law5_loop hs hl h1 (fun x hx => by cases hx) rfl fun w' hb => ⟨rfl, hb⟩
  · simp only [hl, decide_false, e_fd, e_nck, e_pkt, e_pkf, e_gdtt, e_gdtf, e_gdft, e_gdff, e_ift, e_iff, e_not, e_ln, e_lnT, e_cp, e_cvi, e_ex20, e_ex21, e_ex30, e_ex31, e_ex32, e_add, e_sub, e_mul, e_quo, e_rem, e_and, e_or, e_xor, e_shl, e_shr, e_eql, e_neq, e_lss, e_leq, e_gtr, e_geq, e_beq, e_bne, e_peq1, e_peq2, e_pne1, e_pne2, e_zeq1, e_zeq2, e_zne1, e_zne2, e_feq1, e_fne1, e_feq2, e_fne2, e_seq, e_sne, e_ta1, e_ta2, Nat.zero_add, Nat.add_zero, Bool.not_true, Bool.not_false]
    exact ⟨trivial, Below.refl _ _⟩
theorem law5_walk (hs : Scr W v ops) (g0 : W.cell? ⟨0, 0, none⟩ = some (U32 24)) (g1 : W.cell? ⟨0, 1, none⟩ = some (U32 4040)) : Calls Tryd.prog 5 #[v] W fun e w' => e = .returned (.bool true) ∧ Below W.heap.size W w' :=
  Calls.mono (law5 hs g0 g1) fun e w' ⟨r, he, hr, hb⟩ => ⟨by rw [he, hr], hb⟩
end
end Go.Proofs.Qxb6500893aDoor
