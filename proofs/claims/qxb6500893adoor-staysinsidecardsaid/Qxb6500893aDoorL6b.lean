import Derived.Test.Qxb6500893aDoorL6
import Derived.Test.Qxb6500893aDoorL10
namespace Go.Proofs.Qxb6500893aDoor
open Go.Sh Go.RowKit
set_option linter.unusedVariables false
set_option linter.unusedSimpArgs false

section
variable {W w w' : World} {v : Value} {ops : List Op} {K : Value → World → Prop} {B1 B2 : List Value → World → Prop} {s : Ws} {m : Wm} {c : Call} {t6 t8 : Nat} {t28 t29 : Value} {j : Nat} {F : Nat → List Nat} {hob sob : Option Nat} {hv sv : Value} {L : List Lb} {kk nb st0 : Nat}

theorem law6_tail (ok : s.T.Ok) (hI : PInv s.A.ws s.T s.L F) (hf : FailLe 18446744073709551614 s) (k7 : c.kind ≠ 7) (k8 : c.kind ≠ 8) (hj : j < 1000000) (h : LSt W w m (realF kk nb s c)) (r6 : Row w t6 33 (cac c))
    (r8 : Row w t8 41 (outV (midF kk (s00 s) c).code (midF kk (s00 s) c).id (midF kk (s00 s) c).at_ (midF kk (s00 s) c).q st0 sv)) (sl : Sl lbV 3 w 66 hob hv L) (hsub : ∀ x ∈ L, x ∈ s.L) (hLn : L.length ≤ 900000) (hg : LiveIn s.L)
    (ss : Sl u1 1 w 31 sob sv (midF kk (s00 s) c).s.A.sd) (next : ∀ w', LSt W w' m (realF kk nb s c) → B1 [P m.wdb 0, t28, t29, I (j + 1 : Nat)] w') :
    s6_p22 K B1 (P m.wdb 0) (P t6 0) hv (P t8 0) t28 t29 (I j) w := by
  refine law6_stored h (mid_sdlen ok) r6 r8 rfl rfl sl hLn (fun x hx => hg x (hsub x hx)) ss (stored_in ok k7 k8) (fun a ha x hx => stored_out ok hI hf k7 k8 a ha x (hsub x hx)) fun w1 hk1 => ?_
  have h1 := h.kp' hk1
  have r61 := hk1.row' r6
  have r81 := hk1.row' r8
  have sl1 := sl.kp' hk1
  have skip : s6_p2 K B1 (P m.wdb 0) t28 t29 (I j) w1 := by
    unfold s6_p2
    try simp only [e_fd, e_nck, e_pkt, e_pkf, e_gdtt, e_gdtf, e_gdft, e_gdff, e_ift, e_iff, e_not, e_ln, e_lnT, e_cp, e_cvi, e_ex20, e_ex21, e_ex30, e_ex31, e_ex32, e_add, e_sub, e_mul, e_quo, e_rem, e_and, e_or, e_xor, e_shl, e_shr, e_eql, e_neq, e_lss, e_leq, e_gtr, e_geq, e_beq, e_bne, e_peq1, e_peq2, e_pne1, e_pne2, e_zeq1, e_zeq2, e_zne1, e_zne2, e_feq1, e_fne1, e_feq2, e_fne2, e_seq, e_sne, e_ta1, e_ta2, Nat.zero_add, Nat.add_zero, Bool.not_true, Bool.not_false]
    rw [wrap64_id (by omega) (by omega)]
    exact next w1 h1
  unfold s6_p15
  try simp only [e_fd, e_nck, e_pkt, e_pkf, e_gdtt, e_gdtf, e_gdft, e_gdff, e_ift, e_iff, e_not, e_ln, e_lnT, e_cp, e_cvi, e_ex20, e_ex21, e_ex30, e_ex31, e_ex32, e_add, e_sub, e_mul, e_quo, e_rem, e_and, e_or, e_xor, e_shl, e_shr, e_eql, e_neq, e_lss, e_leq, e_gtr, e_geq, e_beq, e_bne, e_peq1, e_peq2, e_pne1, e_pne2, e_zeq1, e_zeq2, e_zne1, e_zne2, e_feq1, e_fne1, e_feq2, e_fne2, e_seq, e_sne, e_ta1, e_ta2, Nat.zero_add, Nat.add_zero, Bool.not_true, Bool.not_false]
  refine ld1_r r81 rfl ?_
  try simp only [e_fd, e_nck, e_pkt, e_pkf, e_gdtt, e_gdtf, e_gdft, e_gdff, e_ift, e_iff, e_not, e_ln, e_lnT, e_cp, e_cvi, e_ex20, e_ex21, e_ex30, e_ex31, e_ex32, e_add, e_sub, e_mul, e_quo, e_rem, e_and, e_or, e_xor, e_shl, e_shr, e_eql, e_neq, e_lss, e_leq, e_gtr, e_geq, e_beq, e_bne, e_peq1, e_peq2, e_pne1, e_pne2, e_zeq1, e_zeq2, e_zne1, e_zne2, e_feq1, e_fne1, e_feq2, e_fne2, e_seq, e_sne, e_ta1, e_ta2, Nat.zero_add, Nat.add_zero, Bool.not_true, Bool.not_false]
  by_cases h0 : (midF kk (s00 s) c).code = 0
  · have e : ((midF kk (s00 s) c).code != 0) = false := by rw [h0]; rfl
    simp only [e, e_fd, e_nck, e_pkt, e_pkf, e_gdtt, e_gdtf, e_gdft, e_gdff, e_ift, e_iff, e_not, e_ln, e_lnT, e_cp, e_cvi, e_ex20, e_ex21, e_ex30, e_ex31, e_ex32, e_add, e_sub, e_mul, e_quo, e_rem, e_and, e_or, e_xor, e_shl, e_shr, e_eql, e_neq, e_lss, e_leq, e_gtr, e_geq, e_beq, e_bne, e_peq1, e_peq2, e_pne1, e_pne2, e_zeq1, e_zeq2, e_zne1, e_zne2, e_feq1, e_fne1, e_feq2, e_fne2, e_seq, e_sne, e_ta1, e_ta2, Nat.zero_add, Nat.add_zero, Bool.not_true, Bool.not_false]
    refine ld1_r r61 rfl ?_
    unfold s6_p14 u8
    try simp only [e_fd, e_nck, e_pkt, e_pkf, e_gdtt, e_gdtf, e_gdft, e_gdff, e_ift, e_iff, e_not, e_ln, e_lnT, e_cp, e_cvi, e_ex20, e_ex21, e_ex30, e_ex31, e_ex32, e_add, e_sub, e_mul, e_quo, e_rem, e_and, e_or, e_xor, e_shl, e_shr, e_eql, e_neq, e_lss, e_leq, e_gtr, e_geq, e_beq, e_bne, e_peq1, e_peq2, e_pne1, e_pne2, e_zeq1, e_zeq2, e_zne1, e_zne2, e_feq1, e_fne1, e_feq2, e_fne2, e_seq, e_sne, e_ta1, e_ta2, Nat.zero_add, Nat.add_zero, Bool.not_true, Bool.not_false]
    by_cases k1 : c.kind = 1
    · have e : (((c.kind : Nat) : Int) == 1) = true := by rw [k1]; rfl
      unfold s6_p13
      simp only [e, e_fd, e_nck, e_pkt, e_pkf, e_gdtt, e_gdtf, e_gdft, e_gdff, e_ift, e_iff, e_not, e_ln, e_lnT, e_cp, e_cvi, e_ex20, e_ex21, e_ex30, e_ex31, e_ex32, e_add, e_sub, e_mul, e_quo, e_rem, e_and, e_or, e_xor, e_shl, e_shr, e_eql, e_neq, e_lss, e_leq, e_gtr, e_geq, e_beq, e_bne, e_peq1, e_peq2, e_pne1, e_pne2, e_zeq1, e_zeq2, e_zne1, e_zne2, e_feq1, e_fne1, e_feq2, e_fne2, e_seq, e_sne, e_ta1, e_ta2, Nat.zero_add, Nat.add_zero, Bool.not_true, Bool.not_false]
      rcases step1 (s := s) (kk := kk) (nb := nb) ok k1 with ⟨hn, em, er⟩ | ⟨h0', hok, em, er⟩
      · rw [em] at h0; exact absurd h0 hn
      · refine law6_create (N := s.T.ps.length) h1 hj (by rw [er]; simp [crT]) r81 (by rw [em]; rfl) next
    · have e : (((c.kind : Nat) : Int) == 1) = false := by rw [beq_eq_false_iff_ne]; omega
      unfold s6_p13
      simp only [e, e_fd, e_nck, e_pkt, e_pkf, e_gdtt, e_gdtf, e_gdft, e_gdff, e_ift, e_iff, e_not, e_ln, e_lnT, e_cp, e_cvi, e_ex20, e_ex21, e_ex30, e_ex31, e_ex32, e_add, e_sub, e_mul, e_quo, e_rem, e_and, e_or, e_xor, e_shl, e_shr, e_eql, e_neq, e_lss, e_leq, e_gtr, e_geq, e_beq, e_bne, e_peq1, e_peq2, e_pne1, e_pne2, e_zeq1, e_zeq2, e_zne1, e_zne2, e_feq1, e_fne1, e_feq2, e_fne2, e_seq, e_sne, e_ta1, e_ta2, Nat.zero_add, Nat.add_zero, Bool.not_true, Bool.not_false]
      unfold s6_p12
      try simp only [e_fd, e_nck, e_pkt, e_pkf, e_gdtt, e_gdtf, e_gdft, e_gdff, e_ift, e_iff, e_not, e_ln, e_lnT, e_cp, e_cvi, e_ex20, e_ex21, e_ex30, e_ex31, e_ex32, e_add, e_sub, e_mul, e_quo, e_rem, e_and, e_or, e_xor, e_shl, e_shr, e_eql, e_neq, e_lss, e_leq, e_gtr, e_geq, e_beq, e_bne, e_peq1, e_peq2, e_pne1, e_pne2, e_zeq1, e_zeq2, e_zne1, e_zne2, e_feq1, e_fne1, e_feq2, e_fne2, e_seq, e_sne, e_ta1, e_ta2, Nat.zero_add, Nat.add_zero, Bool.not_true, Bool.not_false]
      by_cases k2 : c.kind = 2
      · have e : (((c.kind : Nat) : Int) == 2) = true := by rw [k2]; rfl
        unfold s6_p11
        simp only [e, e_fd, e_nck, e_pkt, e_pkf, e_gdtt, e_gdtf, e_gdft, e_gdff, e_ift, e_iff, e_not, e_ln, e_lnT, e_cp, e_cvi, e_ex20, e_ex21, e_ex30, e_ex31, e_ex32, e_add, e_sub, e_mul, e_quo, e_rem, e_and, e_or, e_xor, e_shl, e_shr, e_eql, e_neq, e_lss, e_leq, e_gtr, e_geq, e_beq, e_bne, e_peq1, e_peq2, e_pne1, e_pne2, e_zeq1, e_zeq2, e_zne1, e_zne2, e_feq1, e_fne1, e_feq2, e_fne2, e_seq, e_sne, e_ta1, e_ta2, Nat.zero_add, Nat.add_zero, Bool.not_true, Bool.not_false]
        rcases step2 (s := s) (kk := kk) (nb := nb) ok k2 hI hf with ⟨_, em, _⟩ | ⟨i, hi, _, hF, A', ew, es, em, _⟩ | ⟨i, hi, l, F', hp, hF, em, er⟩
        · rw [em] at h0; cases h0
        · rw [em] at h0; cases h0
        · have hlF : l ∈ F i := by rw [hF]; exact List.mem_cons_self ..
          have hln := (hI.pool i hi).lt l hlF
          rw [er] at h1 next
          exact law6_alloc (i := i) (l := l) h1 hj hi hln hp r61 r81 (by rw [em]; rfl) sl1 hLn (fun x hx => hg x (hsub x hx)) (fun x hx => free_apart ok hI hi hlF (hsub x hx)) next
      · have e : (((c.kind : Nat) : Int) == 2) = false := by rw [beq_eq_false_iff_ne]; omega
        unfold s6_p11
        simp only [e, e_fd, e_nck, e_pkt, e_pkf, e_gdtt, e_gdtf, e_gdft, e_gdff, e_ift, e_iff, e_not, e_ln, e_lnT, e_cp, e_cvi, e_ex20, e_ex21, e_ex30, e_ex31, e_ex32, e_add, e_sub, e_mul, e_quo, e_rem, e_and, e_or, e_xor, e_shl, e_shr, e_eql, e_neq, e_lss, e_leq, e_gtr, e_geq, e_beq, e_bne, e_peq1, e_peq2, e_pne1, e_pne2, e_zeq1, e_zeq2, e_zne1, e_zne2, e_feq1, e_fne1, e_feq2, e_fne2, e_seq, e_sne, e_ta1, e_ta2, Nat.zero_add, Nat.add_zero, Bool.not_true, Bool.not_false]
        exact skip
  · have e : ((midF kk (s00 s) c).code != 0) = true := by rw [bne_iff_ne]; exact h0
    simp only [e, e_fd, e_nck, e_pkt, e_pkf, e_gdtt, e_gdtf, e_gdft, e_gdff, e_ift, e_iff, e_not, e_ln, e_lnT, e_cp, e_cvi, e_ex20, e_ex21, e_ex30, e_ex31, e_ex32, e_add, e_sub, e_mul, e_quo, e_rem, e_and, e_or, e_xor, e_shl, e_shr, e_eql, e_neq, e_lss, e_leq, e_gtr, e_geq, e_beq, e_bne, e_peq1, e_peq2, e_pne1, e_pne2, e_zeq1, e_zeq2, e_zne1, e_zne2, e_feq1, e_fne1, e_feq2, e_fne2, e_seq, e_sne, e_ta1, e_ta2, Nat.zero_add, Nat.add_zero, Bool.not_true, Bool.not_false]
    exact skip

theorem law6_loop (hs : Scr W v ops) (hl : ops.length ≤ 65536) (h : LSt W w m s) (hI : PInv s.A.ws s.T s.L F) (hT : s.T.ps = []) (hL : s.L = []) (hK : ∀ w', Below W.heap.size W w' → K (.bool true) w') : s6_p25 K (P m.wdb 0) v (I ops.length) (I 0) w := by
  unfold s6_p25
  refine ⟨fun n l w' => ∃ (j : Nat) (m' : Wm) (s' : Ws) (F' : Nat → List Nat), j ≤ ops.length ∧ n + j = ops.length ∧ l = [P m'.wdb 0, v, I ops.length, I j] ∧ LSt W w' m' s' ∧ LiveIn s'.L ∧ s'.L.length ≤ j ∧ PInv s'.A.ws s'.T s'.L F' ∧ FailLe j s',
    ops.length, ⟨0, m, s, F, Nat.zero_le _, rfl, rfl, h, fun x hx => (by rw [hL] at hx; cases hx), by rw [hL]; exact Nat.le_refl _, hI, fun sh hsh => (by rw [hT] at hsh; cases hsh)⟩, ?_⟩
  rintro n l w1 ⟨j, m1, s1, F1, hj, hn, rfl, h1, hg1, hL1, hI1, hf1⟩
  rw [s6_p25_Fe]
  unfold s6_p24
  try simp only [e_fd, e_nck, e_pkt, e_pkf, e_gdtt, e_gdtf, e_gdft, e_gdff, e_ift, e_iff, e_not, e_ln, e_lnT, e_cp, e_cvi, e_ex20, e_ex21, e_ex30, e_ex31, e_ex32, e_add, e_sub, e_mul, e_quo, e_rem, e_and, e_or, e_xor, e_shl, e_shr, e_eql, e_neq, e_lss, e_leq, e_gtr, e_geq, e_beq, e_bne, e_peq1, e_peq2, e_pne1, e_pne2, e_zeq1, e_zeq2, e_zne1, e_zne2, e_feq1, e_fne1, e_feq2, e_fne2, e_seq, e_sne, e_ta1, e_ta2, Nat.zero_add, Nat.add_zero, Bool.not_true, Bool.not_false]
  by_cases hlt : j < ops.length
  · have hlt' : (j : Int) < ((ops.length : Nat) : Int) := by omega
    simp only [hlt', decide_true, e_fd, e_nck, e_pkt, e_pkf, e_gdtt, e_gdtf, e_gdft, e_gdff, e_ift, e_iff, e_not, e_ln, e_lnT, e_cp, e_cvi, e_ex20, e_ex21, e_ex30, e_ex31, e_ex32, e_add, e_sub, e_mul, e_quo, e_rem, e_and, e_or, e_xor, e_shl, e_shr, e_eql, e_neq, e_lss, e_leq, e_gtr, e_geq, e_beq, e_bne, e_peq1, e_peq2, e_pne1, e_pne2, e_zeq1, e_zeq2, e_zne1, e_zne2, e_feq1, e_fne1, e_feq2, e_fne2, e_seq, e_sne, e_ta1, e_ta2, Nat.zero_add, Nat.add_zero, Bool.not_true, Bool.not_false]
    unfold s6_p23
    refine hs.take h1.bel hlt fun w2 t5 r5 hk2 hz2 => ?_
    have h2 := h1.kp' hk2
    try simp only [e_fd, e_nck, e_pkt, e_pkf, e_gdtt, e_gdtf, e_gdft, e_gdff, e_ift, e_iff, e_not, e_ln, e_lnT, e_cp, e_cvi, e_ex20, e_ex21, e_ex30, e_ex31, e_ex32, e_add, e_sub, e_mul, e_quo, e_rem, e_and, e_or, e_xor, e_shl, e_shr, e_eql, e_neq, e_lss, e_leq, e_gtr, e_geq, e_beq, e_bne, e_peq1, e_peq2, e_pne1, e_pne2, e_zeq1, e_zeq2, e_zne1, e_zne2, e_feq1, e_fne1, e_feq2, e_fne2, e_seq, e_sne, e_ta1, e_ta2, Nat.zero_add, Nat.add_zero, Bool.not_true, Bool.not_false]
    refine ld1_r r5 rfl ?_
    unfold u8
    try simp only [e_fd, e_nck, e_pkt, e_pkf, e_gdtt, e_gdtf, e_gdft, e_gdff, e_ift, e_iff, e_not, e_ln, e_lnT, e_cp, e_cvi, e_ex20, e_ex21, e_ex30, e_ex31, e_ex32, e_add, e_sub, e_mul, e_quo, e_rem, e_and, e_or, e_xor, e_shl, e_shr, e_eql, e_neq, e_lss, e_leq, e_gtr, e_geq, e_beq, e_bne, e_peq1, e_peq2, e_pne1, e_pne2, e_zeq1, e_zeq2, e_zne1, e_zne2, e_feq1, e_fne1, e_feq2, e_fne2, e_seq, e_sne, e_ta1, e_ta2, Nat.zero_add, Nat.add_zero, Bool.not_true, Bool.not_false]
    have wf := hs.1 _ (List.getElem_mem hlt)
    generalize ops[j] = o at r5 wf ⊢
    have skip : s6_p2 K (fun l' w' => ∃ m_1, m_1 < n ∧ ∃ (j' : Nat) (m' : Wm) (s' : Ws) (F' : Nat → List Nat), j' ≤ ops.length ∧ m_1 + j' = ops.length ∧ l' = [P m'.wdb 0, v, I ops.length, I j'] ∧ LSt W w' m' s' ∧ LiveIn s'.L ∧ s'.L.length ≤ j' ∧ PInv s'.A.ws s'.T s'.L F' ∧ FailLe j' s') (P m1.wdb 0) v (I ops.length) (I j) w2 := by
      unfold s6_p2
      try simp only [e_fd, e_nck, e_pkt, e_pkf, e_gdtt, e_gdtf, e_gdft, e_gdff, e_ift, e_iff, e_not, e_ln, e_lnT, e_cp, e_cvi, e_ex20, e_ex21, e_ex30, e_ex31, e_ex32, e_add, e_sub, e_mul, e_quo, e_rem, e_and, e_or, e_xor, e_shl, e_shr, e_eql, e_neq, e_lss, e_leq, e_gtr, e_geq, e_beq, e_bne, e_peq1, e_peq2, e_pne1, e_pne2, e_zeq1, e_zeq2, e_zne1, e_zne2, e_feq1, e_fne1, e_feq2, e_fne2, e_seq, e_sne, e_ta1, e_ta2, Nat.zero_add, Nat.add_zero, Bool.not_true, Bool.not_false]
      rw [wrap64_id (by omega) (by omega)]
      exact ⟨n - 1, by omega, j + 1, m1, s1, F1, by omega, by omega, by simp, h2, hg1, by omega, hI1, hf1.mono (by omega)⟩
    by_cases k8 : o.kind = 8
    · have e : (((o.kind : Nat) : Int) == 8) = true := by rw [k8]; rfl
      simp only [e, e_fd, e_nck, e_pkt, e_pkf, e_gdtt, e_gdtf, e_gdft, e_gdff, e_ift, e_iff, e_not, e_ln, e_lnT, e_cp, e_cvi, e_ex20, e_ex21, e_ex30, e_ex31, e_ex32, e_add, e_sub, e_mul, e_quo, e_rem, e_and, e_or, e_xor, e_shl, e_shr, e_eql, e_neq, e_lss, e_leq, e_gtr, e_geq, e_beq, e_bne, e_peq1, e_peq2, e_pne1, e_pne2, e_zeq1, e_zeq2, e_zne1, e_zne2, e_feq1, e_fne1, e_feq2, e_fne2, e_seq, e_sne, e_ta1, e_ta2, Nat.zero_add, Nat.add_zero, Bool.not_true, Bool.not_false]
      exact skip
    have e : (((o.kind : Nat) : Int) == 8) = false := by rw [beq_eq_false_iff_ne]; omega
    simp only [e, e_fd, e_nck, e_pkt, e_pkf, e_gdtt, e_gdtf, e_gdft, e_gdff, e_ift, e_iff, e_not, e_ln, e_lnT, e_cp, e_cvi, e_ex20, e_ex21, e_ex30, e_ex31, e_ex32, e_add, e_sub, e_mul, e_quo, e_rem, e_and, e_or, e_xor, e_shl, e_shr, e_eql, e_neq, e_lss, e_leq, e_gtr, e_geq, e_beq, e_bne, e_peq1, e_peq2, e_pne1, e_pne2, e_zeq1, e_zeq2, e_zne1, e_zne2, e_feq1, e_fne1, e_feq2, e_fne2, e_seq, e_sne, e_ta1, e_ta2, Nat.zero_add, Nat.add_zero, Bool.not_true, Bool.not_false]
    refine ld1_r r5 rfl ?_
    unfold u8
    try simp only [e_fd, e_nck, e_pkt, e_pkf, e_gdtt, e_gdtf, e_gdft, e_gdff, e_ift, e_iff, e_not, e_ln, e_lnT, e_cp, e_cvi, e_ex20, e_ex21, e_ex30, e_ex31, e_ex32, e_add, e_sub, e_mul, e_quo, e_rem, e_and, e_or, e_xor, e_shl, e_shr, e_eql, e_neq, e_lss, e_leq, e_gtr, e_geq, e_beq, e_bne, e_peq1, e_peq2, e_pne1, e_pne2, e_zeq1, e_zeq2, e_zne1, e_zne2, e_feq1, e_fne1, e_feq2, e_fne2, e_seq, e_sne, e_ta1, e_ta2, Nat.zero_add, Nat.add_zero, Bool.not_true, Bool.not_false]
    by_cases k7 : o.kind = 7
    · have e : (((o.kind : Nat) : Int) == 7) = true := by rw [k7]; rfl
      simp only [e, e_fd, e_nck, e_pkt, e_pkf, e_gdtt, e_gdtf, e_gdft, e_gdff, e_ift, e_iff, e_not, e_ln, e_lnT, e_cp, e_cvi, e_ex20, e_ex21, e_ex30, e_ex31, e_ex32, e_add, e_sub, e_mul, e_quo, e_rem, e_and, e_or, e_xor, e_shl, e_shr, e_eql, e_neq, e_lss, e_leq, e_gtr, e_geq, e_beq, e_bne, e_peq1, e_peq2, e_pne1, e_pne2, e_zeq1, e_zeq2, e_zne1, e_zne2, e_feq1, e_fne1, e_feq2, e_fne2, e_seq, e_sne, e_ta1, e_ta2, Nat.zero_add, Nat.add_zero, Bool.not_true, Bool.not_false]
      exact skip
    have e : (((o.kind : Nat) : Int) == 7) = false := by rw [beq_eq_false_iff_ne]; omega
    simp only [e, e_fd, e_nck, e_pkt, e_pkf, e_gdtt, e_gdtf, e_gdft, e_gdff, e_ift, e_iff, e_not, e_ln, e_lnT, e_cp, e_cvi, e_ex20, e_ex21, e_ex30, e_ex31, e_ex32, e_add, e_sub, e_mul, e_quo, e_rem, e_and, e_or, e_xor, e_shl, e_shr, e_eql, e_neq, e_lss, e_leq, e_gtr, e_geq, e_beq, e_bne, e_peq1, e_peq2, e_pne1, e_pne2, e_zeq1, e_zeq2, e_zne1, e_zne2, e_feq1, e_fne1, e_feq2, e_fne2, e_seq, e_sne, e_ta1, e_ta2, Nat.zero_add, Nat.add_zero, Bool.not_true, Bool.not_false]
    refine round_head h2 r5 wf (by omega) fun w3 t6 h3 r6 _ hk3 hz3 => ?_
    have hco := resF_ok hg1 h3.rng wf
    have hck8 : (resF s1.L o).kind ≠ 8 := by rw [resF_kind]; exact k8
    have hck7 : (resF s1.L o).kind ≠ 7 := by rw [resF_kind]; exact k7
    generalize resF s1.L o = c at r6 hco hck8 hck7 ⊢
    try simp only [e_fd, e_nck, e_pkt, e_pkf, e_gdtt, e_gdtf, e_gdft, e_gdff, e_ift, e_iff, e_not, e_ln, e_lnT, e_cp, e_cvi, e_ex20, e_ex21, e_ex30, e_ex31, e_ex32, e_add, e_sub, e_mul, e_quo, e_rem, e_and, e_or, e_xor, e_shl, e_shr, e_eql, e_neq, e_lss, e_leq, e_gtr, e_geq, e_beq, e_bne, e_peq1, e_peq2, e_pne1, e_pne2, e_zeq1, e_zeq2, e_zne1, e_zne2, e_feq1, e_fne1, e_feq2, e_fne2, e_seq, e_sne, e_ta1, e_ta2, Nat.zero_add, Nat.add_zero, Bool.not_true, Bool.not_false]
    refine ld1_r h3.wd.row rfl ?_
    refine Sl.app2 (f := lbV) (k := 3) (ob := none) (xs := []) lbV_len rfl (fun _ _ => rfl) ⟨rfl, rfl⟩ h3.wd.live.sl (by simp only [List.length_nil]; omega) (by simp only [List.length_nil]; omega) fun w4 hv hob sl4 hk4 ho4 => ?_
    rw [List.nil_append] at sl4
    have hk4 : Kp (fun _ => False) w3 w4 := hk4.mono (fun b _ q => by cases q)
    have h4 := h3.kp' hk4
    refine round_real h4 (hk4.row' r6) hco (by omega) fun w5 m5 kk nb t8 sob sv hkk h5 st5 r65 r8 sl5 no5 hz5 => ?_
    have slh : Sl lbV 3 w5 66 hob hv s1.L := sl4.kp st5.kp (fun b hb q => by
      rcases ho4 with e | ⟨b', e, hb'⟩
      · rw [e] at hb; cases hb
      · rw [e] at hb
        cases hb
        have := h3.wd.lt q
        omega)
    obtain ⟨F5, hI5⟩ := real_inv (kk := kk) (nb := nb) h3.wd.ok hco hck8 hI1 (hf1.mono (by omega))
    have hf5 := real_fail (kk := kk) (nb := nb) h3.wd.ok hco hck8 hI1 (by omega) hf1
    have hg5 := real_live (c := c) kk nb h3.wd.ok hg1
    have hL5 := real_len (s := s1) (c := c) kk nb
    have hfm : FailLe 18446744073709551614 s1 := hf1.mono (by omega)
    rw [← st5.wdb]
    try simp only [e_fd, e_nck, e_pkt, e_pkf, e_gdtt, e_gdtf, e_gdft, e_gdff, e_ift, e_iff, e_not, e_ln, e_lnT, e_cp, e_cvi, e_ex20, e_ex21, e_ex30, e_ex31, e_ex32, e_add, e_sub, e_mul, e_quo, e_rem, e_and, e_or, e_xor, e_shl, e_shr, e_eql, e_neq, e_lss, e_leq, e_gtr, e_geq, e_beq, e_bne, e_peq1, e_peq2, e_pne1, e_pne2, e_zeq1, e_zeq2, e_zne1, e_zne2, e_feq1, e_fne1, e_feq2, e_fne2, e_seq, e_sne, e_ta1, e_ta2, Nat.zero_add, Nat.add_zero, Bool.not_true, Bool.not_false]
    refine ld1_r r65 rfl ?_
    unfold u8
    try simp only [e_fd, e_nck, e_pkt, e_pkf, e_gdtt, e_gdtf, e_gdft, e_gdff, e_ift, e_iff, e_not, e_ln, e_lnT, e_cp, e_cvi, e_ex20, e_ex21, e_ex30, e_ex31, e_ex32, e_add, e_sub, e_mul, e_quo, e_rem, e_and, e_or, e_xor, e_shl, e_shr, e_eql, e_neq, e_lss, e_leq, e_gtr, e_geq, e_beq, e_bne, e_peq1, e_peq2, e_pne1, e_pne2, e_zeq1, e_zeq2, e_zne1, e_zne2, e_feq1, e_fne1, e_feq2, e_fne2, e_seq, e_sne, e_ta1, e_ta2, Nat.zero_add, Nat.add_zero, Bool.not_true, Bool.not_false]
    have nx : ∀ w', LSt W w' m5 (realF kk nb s1 c) → ∃ m_1, m_1 < n ∧ ∃ (j' : Nat) (m' : Wm) (s' : Ws) (F' : Nat → List Nat), j' ≤ ops.length ∧ m_1 + j' = ops.length ∧ [P m5.wdb 0, v, I ops.length, I (j + 1 : Nat)] = [P m'.wdb 0, v, I ops.length, I j'] ∧ LSt W w' m' s' ∧ LiveIn s'.L ∧ s'.L.length ≤ j' ∧ PInv s'.A.ws s'.T s'.L F' ∧ FailLe j' s' :=
      fun w' h' => ⟨n - 1, by omega, j + 1, m5, _, F5, by omega, by omega, rfl, h', hg5, by omega, hI5, hf5⟩
    have full := law6_tail (K := K) (B1 := fun l' w' => ∃ m_1, m_1 < n ∧ ∃ (j' : Nat) (m' : Wm) (s' : Ws) (F' : Nat → List Nat), j' ≤ ops.length ∧ m_1 + j' = ops.length ∧ l' = [P m'.wdb 0, v, I ops.length, I j'] ∧ LSt W w' m' s' ∧ LiveIn s'.L ∧ s'.L.length ≤ j' ∧ PInv s'.A.ws s'.T s'.L F' ∧ FailLe j' s')
      (t28 := v) (t29 := I ops.length) (j := j) h3.wd.ok hI1 hfm hck7 hck8 (by omega) h5 r65 r8 slh (fun x hx => hx) (by omega) hg1 sl5 nx
    have none_ := law6_tail (K := K) (B1 := fun l' w' => ∃ m_1, m_1 < n ∧ ∃ (j' : Nat) (m' : Wm) (s' : Ws) (F' : Nat → List Nat), j' ≤ ops.length ∧ m_1 + j' = ops.length ∧ l' = [P m'.wdb 0, v, I ops.length, I j'] ∧ LSt W w' m' s' ∧ LiveIn s'.L ∧ s'.L.length ≤ j' ∧ PInv s'.A.ws s'.T s'.L F' ∧ FailLe j' s')
      (t28 := v) (t29 := I ops.length) (j := j) (hob := none) (hv := .slice none 0 0) (L := []) h3.wd.ok hI1 hfm hck7 hck8 (by omega) h5 r65 r8 ⟨rfl, rfl⟩ (fun x hx => (by cases hx)) (Nat.zero_le _) hg1 sl5 nx
    by_cases k0 : c.kind = 0
    · have e : (((c.kind : Nat) : Int) == 0) = true := by rw [k0]; rfl
      simp only [e, e_fd, e_nck, e_pkt, e_pkf, e_gdtt, e_gdtf, e_gdft, e_gdff, e_ift, e_iff, e_not, e_ln, e_lnT, e_cp, e_cvi, e_ex20, e_ex21, e_ex30, e_ex31, e_ex32, e_add, e_sub, e_mul, e_quo, e_rem, e_and, e_or, e_xor, e_shl, e_shr, e_eql, e_neq, e_lss, e_leq, e_gtr, e_geq, e_beq, e_bne, e_peq1, e_peq2, e_pne1, e_pne2, e_zeq1, e_zeq2, e_zne1, e_zne2, e_feq1, e_fne1, e_feq2, e_fne2, e_seq, e_sne, e_ta1, e_ta2, Nat.zero_add, Nat.add_zero, Bool.not_true, Bool.not_false]
      refine ld1_r r8 rfl ?_
      try simp only [e_fd, e_nck, e_pkt, e_pkf, e_gdtt, e_gdtf, e_gdft, e_gdff, e_ift, e_iff, e_not, e_ln, e_lnT, e_cp, e_cvi, e_ex20, e_ex21, e_ex30, e_ex31, e_ex32, e_add, e_sub, e_mul, e_quo, e_rem, e_and, e_or, e_xor, e_shl, e_shr, e_eql, e_neq, e_lss, e_leq, e_gtr, e_geq, e_beq, e_bne, e_peq1, e_peq2, e_pne1, e_pne2, e_zeq1, e_zeq2, e_zne1, e_zne2, e_feq1, e_fne1, e_feq2, e_fne2, e_seq, e_sne, e_ta1, e_ta2, Nat.zero_add, Nat.add_zero, Bool.not_true, Bool.not_false]
      by_cases h0 : (midF kk (s00 s1) c).code = 0
      · have e0 : ((midF kk (s00 s1) c).code == 0) = true := by rw [h0]; rfl
        simp only [e0, e_fd, e_nck, e_pkt, e_pkf, e_gdtt, e_gdtf, e_gdft, e_gdff, e_ift, e_iff, e_not, e_ln, e_lnT, e_cp, e_cvi, e_ex20, e_ex21, e_ex30, e_ex31, e_ex32, e_add, e_sub, e_mul, e_quo, e_rem, e_and, e_or, e_xor, e_shl, e_shr, e_eql, e_neq, e_lss, e_leq, e_gtr, e_geq, e_beq, e_bne, e_peq1, e_peq2, e_pne1, e_pne2, e_zeq1, e_zeq2, e_zne1, e_zne2, e_feq1, e_fne1, e_feq2, e_fne2, e_seq, e_sne, e_ta1, e_ta2, Nat.zero_add, Nat.add_zero, Bool.not_true, Bool.not_false]
        exact none_
      · have e0 : ((midF kk (s00 s1) c).code == 0) = false := by rw [beq_eq_false_iff_ne]; exact h0
        simp only [e0, e_fd, e_nck, e_pkt, e_pkf, e_gdtt, e_gdtf, e_gdft, e_gdff, e_ift, e_iff, e_not, e_ln, e_lnT, e_cp, e_cvi, e_ex20, e_ex21, e_ex30, e_ex31, e_ex32, e_add, e_sub, e_mul, e_quo, e_rem, e_and, e_or, e_xor, e_shl, e_shr, e_eql, e_neq, e_lss, e_leq, e_gtr, e_geq, e_beq, e_bne, e_peq1, e_peq2, e_pne1, e_pne2, e_zeq1, e_zeq2, e_zne1, e_zne2, e_feq1, e_fne1, e_feq2, e_fne2, e_seq, e_sne, e_ta1, e_ta2, Nat.zero_add, Nat.add_zero, Bool.not_true, Bool.not_false]
        exact full
    · have e : (((c.kind : Nat) : Int) == 0) = false := by rw [beq_eq_false_iff_ne]; omega
      simp only [e, e_fd, e_nck, e_pkt, e_pkf, e_gdtt, e_gdtf, e_gdft, e_gdff, e_ift, e_iff, e_not, e_ln, e_lnT, e_cp, e_cvi, e_ex20, e_ex21, e_ex30, e_ex31, e_ex32, e_add, e_sub, e_mul, e_quo, e_rem, e_and, e_or, e_xor, e_shl, e_shr, e_eql, e_neq, e_lss, e_leq, e_gtr, e_geq, e_beq, e_bne, e_peq1, e_peq2, e_pne1, e_pne2, e_zeq1, e_zeq2, e_zne1, e_zne2, e_feq1, e_fne1, e_feq2, e_fne2, e_seq, e_sne, e_ta1, e_ta2, Nat.zero_add, Nat.add_zero, Bool.not_true, Bool.not_false]
      exact full
  · have hlt' : ¬ (j : Int) < ((ops.length : Nat) : Int) := by omega
    simp only [hlt', decide_false, e_fd, e_nck, e_pkt, e_pkf, e_gdtt, e_gdtf, e_gdft, e_gdff, e_ift, e_iff, e_not, e_ln, e_lnT, e_cp, e_cvi, e_ex20, e_ex21, e_ex30, e_ex31, e_ex32, e_add, e_sub, e_mul, e_quo, e_rem, e_and, e_or, e_xor, e_shl, e_shr, e_eql, e_neq, e_lss, e_leq, e_gtr, e_geq, e_beq, e_bne, e_peq1, e_peq2, e_pne1, e_pne2, e_zeq1, e_zeq2, e_zne1, e_zne2, e_feq1, e_fne1, e_feq2, e_fne2, e_seq, e_sne, e_ta1, e_ta2, Nat.zero_add, Nat.add_zero, Bool.not_true, Bool.not_false]
    unfold s6_p1
    exact hK w1 h1.bel

theorem law6 (hs : Scr W v ops) (g0 : W.cell? ⟨0, 0, none⟩ = some (U32 24)) (g1 : W.cell? ⟨0, 1, none⟩ = some (U32 4040)) : cl Tryd.prog 6 #[v] (fun r w' => r = .bool true ∧ Below W.heap.size W w') W := by
  apply c6
  unfold s6_p26
  refine small_ok hs ?_
  by_cases hl : ops.length ≤ 65536
  · simp only [hl, decide_true, e_fd, e_nck, e_pkt, e_pkf, e_gdtt, e_gdtf, e_gdft, e_gdff, e_ift, e_iff, e_not, e_ln, e_lnT, e_cp, e_cvi, e_ex20, e_ex21, e_ex30, e_ex31, e_ex32, e_add, e_sub, e_mul, e_quo, e_rem, e_and, e_or, e_xor, e_shl, e_shr, e_eql, e_neq, e_lss, e_leq, e_gtr, e_geq, e_beq, e_bne, e_peq1, e_peq2, e_pne1, e_pne2, e_zeq1, e_zeq2, e_zne1, e_zne2, e_feq1, e_fne1, e_feq2, e_fne2, e_seq, e_sne, e_ta1, e_ta2, Nat.zero_add, Nat.add_zero, Bool.not_true, Bool.not_false]
    refine newWorld_ok g0 g1 (Below.refl _ _) fun w1 m A mb h1 ho1 hmd rmb hz1 hk1 => ?_
    refine hs.ln ?_
    exact law6_loop hs hl h1 (PInv.open A 24 4040) rfl rfl fun w' hb => ⟨rfl, hb⟩
  · simp only [hl, decide_false, e_fd, e_nck, e_pkt, e_pkf, e_gdtt, e_gdtf, e_gdft, e_gdff, e_ift, e_iff, e_not, e_ln, e_lnT, e_cp, e_cvi, e_ex20, e_ex21, e_ex30, e_ex31, e_ex32, e_add, e_sub, e_mul, e_quo, e_rem, e_and, e_or, e_xor, e_shl, e_shr, e_eql, e_neq, e_lss, e_leq, e_gtr, e_geq, e_beq, e_bne, e_peq1, e_peq2, e_pne1, e_pne2, e_zeq1, e_zeq2, e_zne1, e_zne2, e_feq1, e_fne1, e_feq2, e_fne2, e_seq, e_sne, e_ta1, e_ta2, Nat.zero_add, Nat.add_zero, Bool.not_true, Bool.not_false]
    exact ⟨trivial, Below.refl _ _⟩
theorem law6_walk (hs : Scr W v ops) (g0 : W.cell? ⟨0, 0, none⟩ = some (U32 24)) (g1 : W.cell? ⟨0, 1, none⟩ = some (U32 4040)) : Calls Tryd.prog 6 #[v] W fun e w' => e = .returned (.bool true) ∧ Below W.heap.size W w' :=
  Calls.mono (law6 hs g0 g1) fun e w' ⟨r, he, hr, hb⟩ => ⟨by rw [he, hr], hb⟩
end
end Go.Proofs.Qxb6500893aDoor
