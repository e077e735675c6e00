import Derived.Test.Qxb6500898aV16
namespace Go.Proofs.Qxb6500898a
open Go.Sh Go.RowKit
set_option linter.unusedVariables false
set_option linter.unusedSimpArgs false

section
variable {W w w' w0 w2 : World} {v d t wv rv dv t0 t1 : Value} {ob wob wob0 : Option Nat} {mb t3 t4 b e m n : Nat} {xs ys zs pr da : List Int} {K : Value → World → Prop} {s s' s0 : Mst} {o : Op} {S S' : Nat → Prop} {L : List Value}
theorem e_gdu {bb : Bool} {X : (Value → World → Prop) → World → Prop} : gd undef bb X K w = K undef w := propext ⟨fun h => h.out, fun h => ⟨h⟩⟩
theorem same_self (h1 : Bs w v xs) (h2 : Bs w d xs) (hK : ∀ w', Kp (fun _ => False) w w' → K (.bool true) w') : cl Try.prog 18 #[v, d] K w :=
  same_ok h1 h2 fun w' hk => by rw [decide_eq_true rfl]; exact hK w' hk
/-- the tables of words -/
theorem refuse_words (h1 : Bs w t1 da) (hdl : da.length ≤ 1000000000) (hK : ∀ w', Kp (fun _ => False) w w' → K (.bool true) w') : s27_p2 K t1 w := by
  unfold s27_p2
  refine bsq_r (l := [.int .u64 4, .int .u64 5]) rfl fun w1 r1 hk1 hz1 => ?_
  refine wordsBE64_ok (L := [.int .u64 4, .int .u64 5]) r1 (fun w2 hk2 => h1.kp' (hk1.then hk2 (fun b hb (q : b = _) => by omega))) (by omega) (by decide) (fun hn => ?_) (fun hn w2 r2 hk2 => ?_)
  · simp only [Bool.not_false, e_fd, e_nck, e_pkt, e_pkf, e_gdtt, e_gdtf, e_gdft, e_gdff, e_ift, e_iff, e_not, e_ln, e_lnT, e_cp, e_cvi, e_ex20, e_ex21, e_ex30, e_ex31, e_ex32, e_add, e_sub, e_mul, e_quo, e_rem, e_and, e_or, e_xor, e_shl, e_shr, e_eql, e_neq, e_lss, e_leq, e_gtr, e_geq, e_beq, e_bne, e_peq1, e_peq2, e_pne1, e_pne2, e_zeq1, e_zeq2, e_zne1, e_zne2, e_feq1, e_fne1, e_feq2, e_fne2, e_seq, e_sne, e_ta1, e_ta2, Nat.zero_add, Nat.add_zero, Bool.not_true, Bool.not_false]
    have hl : da.length < 16 := by simp at hn; omega
    refine (h1.kp' hk1).ln ?_
    have h16 : ¬ (16 : Int) ≤ ((da.length : Nat) : Int) := by omega
    simp only [h16, decide_false, e_fd, e_nck, e_pkt, e_pkf, e_gdtt, e_gdtf, e_gdft, e_gdff, e_ift, e_iff, e_not, e_ln, e_lnT, e_cp, e_cvi, e_ex20, e_ex21, e_ex30, e_ex31, e_ex32, e_add, e_sub, e_mul, e_quo, e_rem, e_and, e_or, e_xor, e_shl, e_shr, e_eql, e_neq, e_lss, e_leq, e_gtr, e_geq, e_beq, e_bne, e_peq1, e_peq2, e_pne1, e_pne2, e_zeq1, e_zeq2, e_zne1, e_zne2, e_feq1, e_fne1, e_feq2, e_fne2, e_seq, e_sne, e_ta1, e_ta2, Nat.zero_add, Nat.add_zero, Bool.not_true, Bool.not_false]
    refine ix_sv (i := 0) (by decide) rfl ?_
    refine ld1_r r1 rfl ?_
    simp only [show ((4 : Int) != 4) = false from rfl, e_fd, e_nck, e_pkt, e_pkf, e_gdtt, e_gdtf, e_gdft, e_gdff, e_ift, e_iff, e_not, e_ln, e_lnT, e_cp, e_cvi, e_ex20, e_ex21, e_ex30, e_ex31, e_ex32, e_add, e_sub, e_mul, e_quo, e_rem, e_and, e_or, e_xor, e_shl, e_shr, e_eql, e_neq, e_lss, e_leq, e_gtr, e_geq, e_beq, e_bne, e_peq1, e_peq2, e_pne1, e_pne2, e_zeq1, e_zeq2, e_zne1, e_zne2, e_feq1, e_fne1, e_feq2, e_fne2, e_seq, e_sne, e_ta1, e_ta2, Nat.zero_add, Nat.add_zero, Bool.not_true, Bool.not_false]
    refine ix_sv (i := 1) (by decide) rfl ?_
    refine ld1_r r1 rfl ?_
    simp only [show ((5 : Int) != 5) = false from rfl, e_fd, e_nck, e_pkt, e_pkf, e_gdtt, e_gdtf, e_gdft, e_gdff, e_ift, e_iff, e_not, e_ln, e_lnT, e_cp, e_cvi, e_ex20, e_ex21, e_ex30, e_ex31, e_ex32, e_add, e_sub, e_mul, e_quo, e_rem, e_and, e_or, e_xor, e_shl, e_shr, e_eql, e_neq, e_lss, e_leq, e_gtr, e_geq, e_beq, e_bne, e_peq1, e_peq2, e_pne1, e_pne2, e_zeq1, e_zeq2, e_zne1, e_zne2, e_feq1, e_fne1, e_feq2, e_fne2, e_seq, e_sne, e_ta1, e_ta2, Nat.zero_add, Nat.add_zero, Bool.not_true, Bool.not_false]
    unfold s27_p1
    exact hK w1 hk1
  · simp only [Bool.not_true, e_fd, e_nck, e_pkt, e_pkf, e_gdtt, e_gdtf, e_gdft, e_gdff, e_ift, e_iff, e_not, e_ln, e_lnT, e_cp, e_cvi, e_ex20, e_ex21, e_ex30, e_ex31, e_ex32, e_add, e_sub, e_mul, e_quo, e_rem, e_and, e_or, e_xor, e_shl, e_shr, e_eql, e_neq, e_lss, e_leq, e_gtr, e_geq, e_beq, e_bne, e_peq1, e_peq2, e_pne1, e_pne2, e_zeq1, e_zeq2, e_zne1, e_zne2, e_feq1, e_fne1, e_feq2, e_fne2, e_seq, e_sne, e_ta1, e_ta2, Nat.zero_add, Nat.add_zero, Bool.not_true, Bool.not_false]
    unfold s27_p1
    exact hK w2 (hk1.then hk2 (fun b hb (q : b = _) => by omega))
theorem refuse_words2 (h1 : Bs w t1 da) (hdl : da.length ≤ 1000000000) (hK : ∀ w', Kp (fun _ => False) w w' → K (.bool true) w') : s27_p3 K t1 (.bool false) w := by
  unfold s27_p3
  try simp only [e_fd, e_nck, e_pkt, e_pkf, e_gdtt, e_gdtf, e_gdft, e_gdff, e_ift, e_iff, e_not, e_ln, e_lnT, e_cp, e_cvi, e_ex20, e_ex21, e_ex30, e_ex31, e_ex32, e_add, e_sub, e_mul, e_quo, e_rem, e_and, e_or, e_xor, e_shl, e_shr, e_eql, e_neq, e_lss, e_leq, e_gtr, e_geq, e_beq, e_bne, e_peq1, e_peq2, e_pne1, e_pne2, e_zeq1, e_zeq2, e_zne1, e_zne2, e_feq1, e_fne1, e_feq2, e_fne2, e_seq, e_sne, e_ta1, e_ta2, Nat.zero_add, Nat.add_zero, Bool.not_true, Bool.not_false]
  refine bsq_r (l := [.int .u32 1, .int .u32 2, .int .u32 3]) rfl fun w1 r1 hk1 hz1 => ?_
  have dat : ∀ {w2}, Kp (fun k => k = w.heap.size) w1 w2 → Kp (fun _ => False) w w2 := fun hk2 => hk1.then hk2 (fun b hb (q : b = _) => by omega)
  refine wordsBE32_ok (L := [.int .u32 1, .int .u32 2, .int .u32 3]) r1 (fun w2 hk2 => h1.kp' (dat hk2)) (by omega) (by decide) (fun hn => ?_) (fun hn w2 r2 hk2 => ?_)
  · simp only [Bool.not_false, e_fd, e_nck, e_pkt, e_pkf, e_gdtt, e_gdtf, e_gdft, e_gdff, e_ift, e_iff, e_not, e_ln, e_lnT, e_cp, e_cvi, e_ex20, e_ex21, e_ex30, e_ex31, e_ex32, e_add, e_sub, e_mul, e_quo, e_rem, e_and, e_or, e_xor, e_shl, e_shr, e_eql, e_neq, e_lss, e_leq, e_gtr, e_geq, e_beq, e_bne, e_peq1, e_peq2, e_pne1, e_pne2, e_zeq1, e_zeq2, e_zne1, e_zne2, e_feq1, e_fne1, e_feq2, e_fne2, e_seq, e_sne, e_ta1, e_ta2, Nat.zero_add, Nat.add_zero, Bool.not_true, Bool.not_false]
    have hl : da.length < 12 := by simp at hn; omega
    refine (h1.kp' hk1).ln ?_
    have h12 : ¬ (12 : Int) ≤ ((da.length : Nat) : Int) := by omega
    simp only [h12, decide_false, e_fd, e_nck, e_pkt, e_pkf, e_gdtt, e_gdtf, e_gdft, e_gdff, e_ift, e_iff, e_not, e_ln, e_lnT, e_cp, e_cvi, e_ex20, e_ex21, e_ex30, e_ex31, e_ex32, e_add, e_sub, e_mul, e_quo, e_rem, e_and, e_or, e_xor, e_shl, e_shr, e_eql, e_neq, e_lss, e_leq, e_gtr, e_geq, e_beq, e_bne, e_peq1, e_peq2, e_pne1, e_pne2, e_zeq1, e_zeq2, e_zne1, e_zne2, e_feq1, e_fne1, e_feq2, e_fne2, e_seq, e_sne, e_ta1, e_ta2, Nat.zero_add, Nat.add_zero, Bool.not_true, Bool.not_false]
    refine ix_sv (i := 0) (by decide) rfl ?_
    refine ld1_r r1 rfl ?_
    simp only [show ((1 : Int) != 1) = false from rfl, e_fd, e_nck, e_pkt, e_pkf, e_gdtt, e_gdtf, e_gdft, e_gdff, e_ift, e_iff, e_not, e_ln, e_lnT, e_cp, e_cvi, e_ex20, e_ex21, e_ex30, e_ex31, e_ex32, e_add, e_sub, e_mul, e_quo, e_rem, e_and, e_or, e_xor, e_shl, e_shr, e_eql, e_neq, e_lss, e_leq, e_gtr, e_geq, e_beq, e_bne, e_peq1, e_peq2, e_pne1, e_pne2, e_zeq1, e_zeq2, e_zne1, e_zne2, e_feq1, e_fne1, e_feq2, e_fne2, e_seq, e_sne, e_ta1, e_ta2, Nat.zero_add, Nat.add_zero, Bool.not_true, Bool.not_false]
    refine ix_sv (i := 1) (by decide) rfl ?_
    refine ld1_r r1 rfl ?_
    simp only [show ((2 : Int) != 2) = false from rfl, e_fd, e_nck, e_pkt, e_pkf, e_gdtt, e_gdtf, e_gdft, e_gdff, e_ift, e_iff, e_not, e_ln, e_lnT, e_cp, e_cvi, e_ex20, e_ex21, e_ex30, e_ex31, e_ex32, e_add, e_sub, e_mul, e_quo, e_rem, e_and, e_or, e_xor, e_shl, e_shr, e_eql, e_neq, e_lss, e_leq, e_gtr, e_geq, e_beq, e_bne, e_peq1, e_peq2, e_pne1, e_pne2, e_zeq1, e_zeq2, e_zne1, e_zne2, e_feq1, e_fne1, e_feq2, e_fne2, e_seq, e_sne, e_ta1, e_ta2, Nat.zero_add, Nat.add_zero, Bool.not_true, Bool.not_false]
    refine ix_sv (i := 2) (by decide) rfl ?_
    refine ld1_r r1 rfl ?_
    simp only [show ((3 : Int) != 3) = false from rfl, e_fd, e_nck, e_pkt, e_pkf, e_gdtt, e_gdtf, e_gdft, e_gdff, e_ift, e_iff, e_not, e_ln, e_lnT, e_cp, e_cvi, e_ex20, e_ex21, e_ex30, e_ex31, e_ex32, e_add, e_sub, e_mul, e_quo, e_rem, e_and, e_or, e_xor, e_shl, e_shr, e_eql, e_neq, e_lss, e_leq, e_gtr, e_geq, e_beq, e_bne, e_peq1, e_peq2, e_pne1, e_pne2, e_zeq1, e_zeq2, e_zne1, e_zne2, e_feq1, e_fne1, e_feq2, e_fne2, e_seq, e_sne, e_ta1, e_ta2, Nat.zero_add, Nat.add_zero, Bool.not_true, Bool.not_false]
    exact refuse_words (h1.kp' hk1) hdl fun w3 hk3 => hK w3 (hk1.trans hk3)
  · simp only [Bool.not_true, e_fd, e_nck, e_pkt, e_pkf, e_gdtt, e_gdtf, e_gdft, e_gdff, e_ift, e_iff, e_not, e_ln, e_lnT, e_cp, e_cvi, e_ex20, e_ex21, e_ex30, e_ex31, e_ex32, e_add, e_sub, e_mul, e_quo, e_rem, e_and, e_or, e_xor, e_shl, e_shr, e_eql, e_neq, e_lss, e_leq, e_gtr, e_geq, e_beq, e_bne, e_peq1, e_peq2, e_pne1, e_pne2, e_zeq1, e_zeq2, e_zne1, e_zne2, e_feq1, e_fne1, e_feq2, e_fne2, e_seq, e_sne, e_ta1, e_ta2, Nat.zero_add, Nat.add_zero, Bool.not_true, Bool.not_false]
    have hfl : (fillW (fun l => Value.int .u32 (be4 l)) 4 da [.int .u32 1, .int .u32 2, .int .u32 3] 3).length = 3 := by simp [fillW]
    have e3 : sv w.heap.size 0 3 3 = sv w.heap.size 0 (fillW (fun l => Value.int .u32 (be4 l)) 4 da [.int .u32 1, .int .u32 2, .int .u32 3] 3).length (fillW (fun l => Value.int .u32 (be4 l)) 4 da [.int .u32 1, .int .u32 2, .int .u32 3] 3).length := by rw [hfl]
    show cl Try.prog 69 #[sv w.heap.size 0 3 3, t1] _ w2
    rw [e3]
    refine wordsLE32_ok (L := fillW (fun l => Value.int .u32 (be4 l)) 4 da [.int .u32 1, .int .u32 2, .int .u32 3] 3) r2 (fun w3 hk3 => h1.kp' (dat (hk2.trans hk3))) (by omega) (by rw [hfl]; decide) (fun hn2 => ?_) (fun hn2 w3 r3 hk3 => ?_)
    · rw [hfl] at hn2
      exact absurd hn2 hn
    · simp only [Bool.not_true, e_fd, e_nck, e_pkt, e_pkf, e_gdtt, e_gdtf, e_gdft, e_gdff, e_ift, e_iff, e_not, e_ln, e_lnT, e_cp, e_cvi, e_ex20, e_ex21, e_ex30, e_ex31, e_ex32, e_add, e_sub, e_mul, e_quo, e_rem, e_and, e_or, e_xor, e_shl, e_shr, e_eql, e_neq, e_lss, e_leq, e_gtr, e_geq, e_beq, e_bne, e_peq1, e_peq2, e_pne1, e_pne2, e_zeq1, e_zeq2, e_zne1, e_zne2, e_feq1, e_fne1, e_feq2, e_fne2, e_seq, e_sne, e_ta1, e_ta2, Nat.zero_add, Nat.add_zero, Bool.not_true, Bool.not_false]
      exact refuse_words (h1.kp' (dat (hk2.trans hk3))) hdl fun w4 hk4 => hK w4 ((dat (hk2.trans hk3)).trans hk4)
theorem refuse_end0 (h1 : Bs w t1 da) (hdl : da.length ≤ 65536) {h : Value} (hK : ∀ w', Kp (fun _ => False) w w' → K (.bool true) w') : s27_p4 K t0 t1 (I (n : Nat)) h illV w := by
  unfold s27_p4 s27_p4_d illV
  have k1 : Kp (fun _ => False) w (drw w) := kp_drw
  generalize drw w = w1 at k1 ⊢
  try simp only [e_fd, e_nck, e_pkt, e_pkf, e_gdtt, e_gdtf, e_gdft, e_gdff, e_ift, e_iff, e_not, e_ln, e_lnT, e_cp, e_cvi, e_ex20, e_ex21, e_ex30, e_ex31, e_ex32, e_add, e_sub, e_mul, e_quo, e_rem, e_and, e_or, e_xor, e_shl, e_shr, e_eql, e_neq, e_lss, e_leq, e_gtr, e_geq, e_beq, e_bne, e_peq1, e_peq2, e_pne1, e_pne2, e_zeq1, e_zeq2, e_zne1, e_zne2, e_feq1, e_fne1, e_feq2, e_fne2, e_seq, e_sne, e_ta1, e_ta2, Nat.zero_add, Nat.add_zero, Bool.not_true, Bool.not_false]
  exact refuse_words2 (h1.kp' k1) (by omega) fun w2 hk2 => hK w2 (k1.trans hk2)
theorem refuse_end1 (h1 : Bs w t1 da) (hdl : da.length ≤ 65536) (h0 : Bs w t0 pr) {t6 : Value} {L : List Int} (h6 : Bs w t6 L) (hn : n ≤ pr.length) (hL : L.take n = pr.take n) (hnL : n ≤ L.length) (hK : ∀ w', Kp (fun _ => False) w w' → K (.bool true) w') : s27_p4 K t0 t1 (I (n : Nat)) t6 .nilIface w := by
  unfold s27_p4 s27_p4_d
  have k1 : Kp (fun _ => False) w (drw w) := kp_drw
  generalize drw w = w1 at k1 ⊢
  try simp only [e_fd, e_nck, e_pkt, e_pkf, e_gdtt, e_gdtf, e_gdft, e_gdff, e_ift, e_iff, e_not, e_ln, e_lnT, e_cp, e_cvi, e_ex20, e_ex21, e_ex30, e_ex31, e_ex32, e_add, e_sub, e_mul, e_quo, e_rem, e_and, e_or, e_xor, e_shl, e_shr, e_eql, e_neq, e_lss, e_leq, e_gtr, e_geq, e_beq, e_bne, e_peq1, e_peq2, e_pne1, e_pne2, e_zeq1, e_zeq2, e_zne1, e_zne2, e_feq1, e_fne1, e_feq2, e_fne2, e_seq, e_sne, e_ta1, e_ta2, Nat.zero_add, Nat.add_zero, Bool.not_true, Bool.not_false]
  refine (h6.kp' k1).takeZ rfl hnL fun v1 hv1 => ?_
  try simp only [e_fd, e_nck, e_pkt, e_pkf, e_gdtt, e_gdtf, e_gdft, e_gdff, e_ift, e_iff, e_not, e_ln, e_lnT, e_cp, e_cvi, e_ex20, e_ex21, e_ex30, e_ex31, e_ex32, e_add, e_sub, e_mul, e_quo, e_rem, e_and, e_or, e_xor, e_shl, e_shr, e_eql, e_neq, e_lss, e_leq, e_gtr, e_geq, e_beq, e_bne, e_peq1, e_peq2, e_pne1, e_pne2, e_zeq1, e_zeq2, e_zne1, e_zne2, e_feq1, e_fne1, e_feq2, e_fne2, e_seq, e_sne, e_ta1, e_ta2, Nat.zero_add, Nat.add_zero, Bool.not_true, Bool.not_false]
  refine (h0.kp' k1).takeZ rfl hn fun v2 hv2 => ?_
  try simp only [e_fd, e_nck, e_pkt, e_pkf, e_gdtt, e_gdtf, e_gdft, e_gdff, e_ift, e_iff, e_not, e_ln, e_lnT, e_cp, e_cvi, e_ex20, e_ex21, e_ex30, e_ex31, e_ex32, e_add, e_sub, e_mul, e_quo, e_rem, e_and, e_or, e_xor, e_shl, e_shr, e_eql, e_neq, e_lss, e_leq, e_gtr, e_geq, e_beq, e_bne, e_peq1, e_peq2, e_pne1, e_pne2, e_zeq1, e_zeq2, e_zne1, e_zne2, e_feq1, e_fne1, e_feq2, e_fne2, e_seq, e_sne, e_ta1, e_ta2, Nat.zero_add, Nat.add_zero, Bool.not_true, Bool.not_false]
  have q1 := hv1 w1 (h6.kp' k1)
  rw [hL] at q1
  refine same_self q1 (hv2 w1 (h0.kp' k1)) fun w2 hk2 => ?_
  simp only [Bool.not_true, e_fd, e_nck, e_pkt, e_pkf, e_gdtt, e_gdtf, e_gdft, e_gdff, e_ift, e_iff, e_not, e_ln, e_lnT, e_cp, e_cvi, e_ex20, e_ex21, e_ex30, e_ex31, e_ex32, e_add, e_sub, e_mul, e_quo, e_rem, e_and, e_or, e_xor, e_shl, e_shr, e_eql, e_neq, e_lss, e_leq, e_gtr, e_geq, e_beq, e_bne, e_peq1, e_peq2, e_pne1, e_pne2, e_zeq1, e_zeq2, e_zne1, e_zne2, e_feq1, e_fne1, e_feq2, e_fne2, e_seq, e_sne, e_ta1, e_ta2, Nat.zero_add, Nat.add_zero, Bool.not_true, Bool.not_false]
  exact refuse_words2 (h1.kp' (k1.trans hk2)) (by omega) fun w3 hk3 => hK w3 ((k1.trans hk2).trans hk3)
theorem refusal_ok (h0 : Bs w t0 pr) (h1 : Bs w t1 da) (hpl : pr.length ≤ 100000000000) (hdl : da.length ≤ 65536) (hK : ∀ w', Kp (fun _ => False) w w' → K (.bool true) w') : cl Try.prog 27 #[t0, t1] K w := by
  have hpb : By pr := h0.by_
  -- a change of a new block only
  have nb : ∀ {w1 w2 : World} {b : Nat}, w.heap.size ≤ b → Kp (fun _ => False) w w1 → Kp (fun k => some b = some k) w1 w2 → Kp (fun _ => False) w w2 := fun hb hk1 hk2 => hk1.then hk2 (fun k hk (q : some _ = some k) => by cases q; omega)
  apply c27
  unfold s27_p5
  refine clone_ok h0 (by omega) fun w1 b1 r1 hz1 hk1 => ?_
  have m1 := mv_row r1 hpb (by omega)
  refine addOnes_ok m1 (fun w2 hk2 => h1.kp' (nb hz1 hk1 hk2)) (fun hn => ?a) (fun he w2 zs m2 hlz hres hk2 hz2 => ?b)
  case' a =>
    simp only [Bool.not_false, e_fd, e_nck, e_pkt, e_pkf, e_gdtt, e_gdtf, e_gdft, e_gdff, e_ift, e_iff, e_not, e_ln, e_lnT, e_cp, e_cvi, e_ex20, e_ex21, e_ex30, e_ex31, e_ex32, e_add, e_sub, e_mul, e_quo, e_rem, e_and, e_or, e_xor, e_shl, e_shr, e_eql, e_neq, e_lss, e_leq, e_gtr, e_geq, e_beq, e_bne, e_peq1, e_peq2, e_pne1, e_pne2, e_zeq1, e_zeq2, e_zne1, e_zne2, e_feq1, e_fne1, e_feq2, e_fne2, e_seq, e_sne, e_ta1, e_ta2, Nat.zero_add, Nat.add_zero, Bool.not_true, Bool.not_false]
    refine same_self m1.bs (h0.kp' hk1) fun w2 hk2 => ?_
    have k2 := hk1.trans hk2
  case' b => have k2 := nb hz1 hk1 hk2
  all_goals
    simp only [Bool.not_true, e_fd, e_nck, e_pkt, e_pkf, e_gdtt, e_gdtf, e_gdft, e_gdff, e_ift, e_iff, e_not, e_ln, e_lnT, e_cp, e_cvi, e_ex20, e_ex21, e_ex30, e_ex31, e_ex32, e_add, e_sub, e_mul, e_quo, e_rem, e_and, e_or, e_xor, e_shl, e_shr, e_eql, e_neq, e_lss, e_leq, e_gtr, e_geq, e_beq, e_bne, e_peq1, e_peq2, e_pne1, e_pne2, e_zeq1, e_zeq2, e_zne1, e_zne2, e_feq1, e_fne1, e_feq2, e_fne2, e_seq, e_sne, e_ta1, e_ta2, Nat.zero_add, Nat.add_zero, Bool.not_true, Bool.not_false]
    refine clone_ok (h0.kp' k2) (by omega) fun w3 b3 r3 hz3 hk3 => ?_
    have m3 := mv_row r3 hpb (by omega)
    have k3 := k2.trans hk3
    have z3 : w.heap.size ≤ b3 := by have := k2.size; omega
    refine foldOnes_ok m3 (fun w4 hk4 => h1.kp' (nb z3 k3 hk4)) (by omega) (fun hn => ?_) (fun he w4 zs m4 hlz hres hk4 hz4 => ?_)
    all_goals first
      | (have k4 := nb z3 k3 hk4)
      | (simp only [Bool.not_false, e_fd, e_nck, e_pkt, e_pkf, e_gdtt, e_gdtf, e_gdft, e_gdff, e_ift, e_iff, e_not, e_ln, e_lnT, e_cp, e_cvi, e_ex20, e_ex21, e_ex30, e_ex31, e_ex32, e_add, e_sub, e_mul, e_quo, e_rem, e_and, e_or, e_xor, e_shl, e_shr, e_eql, e_neq, e_lss, e_leq, e_gtr, e_geq, e_beq, e_bne, e_peq1, e_peq2, e_pne1, e_pne2, e_zeq1, e_zeq2, e_zne1, e_zne2, e_feq1, e_fne1, e_feq2, e_fne2, e_seq, e_sne, e_ta1, e_ta2, Nat.zero_add, Nat.add_zero, Bool.not_true, Bool.not_false]
         refine same_self m3.bs (h0.kp' k3) fun w4 hk4 => ?_
         have k4 := k3.trans hk4)
    all_goals
      simp only [Bool.not_true, e_fd, e_nck, e_pkt, e_pkf, e_gdtt, e_gdtf, e_gdft, e_gdff, e_ift, e_iff, e_not, e_ln, e_lnT, e_cp, e_cvi, e_ex20, e_ex21, e_ex30, e_ex31, e_ex32, e_add, e_sub, e_mul, e_quo, e_rem, e_and, e_or, e_xor, e_shl, e_shr, e_eql, e_neq, e_lss, e_leq, e_gtr, e_geq, e_beq, e_bne, e_peq1, e_peq2, e_pne1, e_pne2, e_zeq1, e_zeq2, e_zne1, e_zne2, e_feq1, e_fne1, e_feq2, e_fne2, e_seq, e_sne, e_ta1, e_ta2, Nat.zero_add, Nat.add_zero, Bool.not_true, Bool.not_false]
      refine clone_ok (h0.kp' k4) (by omega) fun w5 b5 r5 hz5 hk5 => ?_
      have k5 := k4.trans hk5
      have z5 : w.heap.size ≤ b5 := by have := k4.size; omega
      have m5 := mv_row r5 hpb (by omega)
      refine m5.ln ?_
      try simp only [e_fd, e_nck, e_pkt, e_pkf, e_gdtt, e_gdtf, e_gdft, e_gdff, e_ift, e_iff, e_not, e_ln, e_lnT, e_cp, e_cvi, e_ex20, e_ex21, e_ex30, e_ex31, e_ex32, e_add, e_sub, e_mul, e_quo, e_rem, e_and, e_or, e_xor, e_shl, e_shr, e_eql, e_neq, e_lss, e_leq, e_gtr, e_geq, e_beq, e_bne, e_peq1, e_peq2, e_pne1, e_pne2, e_zeq1, e_zeq2, e_zne1, e_zne2, e_feq1, e_fne1, e_feq2, e_fne2, e_seq, e_sne, e_ta1, e_ta2, Nat.zero_add, Nat.add_zero, Bool.not_true, Bool.not_false]
      refine ⟨by decide, ?_⟩
      have ed : IntKind.i64.wrap (((pr.length : Nat) : Int).tdiv 2) = ((pr.length / 2 : Nat) : Int) := by
        rw [Int.tdiv_eq_ediv_of_nonneg (by omega), wrap64_id (by omega) (by omega)]; omega
      rw [ed]
      refine sls_to rfl (by omega) ?_
      have htl : (pr.take (pr.length / 2)).length = pr.length / 2 := by rw [List.length_take]; omega
      have sl5 : Sl u1 1 w5 5 (some b5) (sv b5 0 (pr.length / 2) pr.length) (pr.take (pr.length / 2)) :=
        ⟨pr.length, (pr.drop (pr.length / 2)).map U8, by rw [htl], by omega, by rw [List.length_map, List.length_drop, htl]; omega, by rw [rows_u1, ← List.map_append, List.take_append_drop]; exact r5⟩
      refine app16_ok sl5 (by omega) (h1.q (S := fun k => some b5 = some k) k5 (fun b q => by cases q; exact z5)) (by omega) (fun w6 hk6 hD => ?_) (fun w6 t6 ob6 r hD s6 ho6 hk6 => ?_)
      · have k6 := k5.trans hk6
        unfold illV
        simp only [bne_self_eq_false, e_fd, e_nck, e_pkt, e_pkf, e_gdtt, e_gdtf, e_gdft, e_gdff, e_ift, e_iff, e_not, e_ln, e_lnT, e_cp, e_cvi, e_ex20, e_ex21, e_ex30, e_ex31, e_ex32, e_add, e_sub, e_mul, e_quo, e_rem, e_and, e_or, e_xor, e_shl, e_shr, e_eql, e_neq, e_lss, e_leq, e_gtr, e_geq, e_beq, e_bne, e_peq1, e_peq2, e_pne1, e_pne2, e_zeq1, e_zeq2, e_zne1, e_zne2, e_feq1, e_fne1, e_feq2, e_fne2, e_seq, e_sne, e_ta1, e_ta2, Nat.zero_add, Nat.add_zero, Bool.not_true, Bool.not_false]
        refine same_self (m5.kp' hk6).bs (h0.kp' k6) fun w7 hk7 => ?_
        simp only [Bool.not_true, e_fd, e_nck, e_pkt, e_pkf, e_gdtt, e_gdtf, e_gdft, e_gdff, e_ift, e_iff, e_not, e_ln, e_lnT, e_cp, e_cvi, e_ex20, e_ex21, e_ex30, e_ex31, e_ex32, e_add, e_sub, e_mul, e_quo, e_rem, e_and, e_or, e_xor, e_shl, e_shr, e_eql, e_neq, e_lss, e_leq, e_gtr, e_geq, e_beq, e_bne, e_peq1, e_peq2, e_pne1, e_pne2, e_zeq1, e_zeq2, e_zne1, e_zne2, e_feq1, e_fne1, e_feq2, e_fne2, e_seq, e_sne, e_ta1, e_ta2, Nat.zero_add, Nat.add_zero, Bool.not_true, Bool.not_false]
        exact refuse_end0 (h1.kp' (k6.trans hk7)) hdl fun w8 hk8 => hK w8 ((k6.trans hk7).trans hk8)
      · have k6 := nb z5 k5 hk6
        simp only [e_gdu, e_fd, e_nck, e_pkt, e_pkf, e_gdtt, e_gdtf, e_gdft, e_gdff, e_ift, e_iff, e_not, e_ln, e_lnT, e_cp, e_cvi, e_ex20, e_ex21, e_ex30, e_ex31, e_ex32, e_add, e_sub, e_mul, e_quo, e_rem, e_and, e_or, e_xor, e_shl, e_shr, e_eql, e_neq, e_lss, e_leq, e_gtr, e_geq, e_beq, e_bne, e_peq1, e_peq2, e_pne1, e_pne2, e_zeq1, e_zeq2, e_zne1, e_zne2, e_feq1, e_fne1, e_feq2, e_fne2, e_seq, e_sne, e_ta1, e_ta2, Nat.zero_add, Nat.add_zero, Bool.not_true, Bool.not_false]
        have hDl := D_len hD
        have hul := units_len r
        have hll := le2_len (units r)
        have hLl : (pr.take (pr.length / 2) ++ le2 (units r)).length = pr.length / 2 + (le2 (units r)).length := by rw [List.length_append, htl]
        have hby : By (pr.take (pr.length / 2) ++ le2 (units r)) := (hpb.take _).app (le2_by (units_by (D_by h1.by_ hD)))
        exact refuse_end1 (h1.kp' k6) hdl (h0.kp' k6) (sl_bs s6 hby (by omega)) (by omega) (List.take_left' htl) (by omega) fun w8 hk8 => hK w8 (k6.trans hk8)
theorem law8_loop {ops : List Op} (hs : Scr W v ops) (hl : ops.length ≤ 65536) (hall : ∀ x ∈ ops, x.data.length ≤ 65536) (h : LZ W w mb wob wv rv s 0) (hK : ∀ w', Kp (fun _ => False) W w' → K (.bool true) w') : s8_p3 K (Pt mb 0) v (I ops.length) (I (0 : Nat)) w := by
  unfold s8_p3
  refine ⟨fun n l w' => ∃ (j : Nat) (wob : Option Nat) (wv rv : Value) (s : Mst), n + j = ops.length ∧ l = [Pt mb 0, v, I ops.length, I (j : Nat)] ∧ LZ W w' mb wob wv rv s j, ops.length, ⟨0, wob, wv, rv, s, rfl, rfl, h⟩, ?_⟩
  rintro n l w1 ⟨j, wob, wv, rv, s, hn, rfl, h1⟩
  rw [s8_p3_Fe]
  unfold s8_p2
  try simp only [e_fd, e_nck, e_pkt, e_pkf, e_gdtt, e_gdtf, e_gdft, e_gdff, e_ift, e_iff, e_not, e_ln, e_lnT, e_cp, e_cvi, e_ex20, e_ex21, e_ex30, e_ex31, e_ex32, e_add, e_sub, e_mul, e_quo, e_rem, e_and, e_or, e_xor, e_shl, e_shr, e_eql, e_neq, e_lss, e_leq, e_gtr, e_geq, e_beq, e_bne, e_peq1, e_peq2, e_pne1, e_pne2, e_zeq1, e_zeq2, e_zne1, e_zne2, e_feq1, e_fne1, e_feq2, e_fne2, e_seq, e_sne, e_ta1, e_ta2, Nat.zero_add, Nat.add_zero, Bool.not_true, Bool.not_false]
  by_cases hj : j < ops.length
  · have hj' : ((j : Nat) : Int) < ((ops.length : Nat) : Int) := by omega
    simp only [hj', decide_true, e_fd, e_nck, e_pkt, e_pkf, e_gdtt, e_gdtf, e_gdft, e_gdff, e_ift, e_iff, e_not, e_ln, e_lnT, e_cp, e_cvi, e_ex20, e_ex21, e_ex30, e_ex31, e_ex32, e_add, e_sub, e_mul, e_quo, e_rem, e_and, e_or, e_xor, e_shl, e_shr, e_eql, e_neq, e_lss, e_leq, e_gtr, e_geq, e_beq, e_bne, e_peq1, e_peq2, e_pne1, e_pne2, e_zeq1, e_zeq2, e_zne1, e_zne2, e_feq1, e_fne1, e_feq2, e_fne2, e_seq, e_sne, e_ta1, e_ta2, Nat.zero_add, Nat.add_zero, Bool.not_true, Bool.not_false]
    refine h1.step hs hl hall hj fun w2 wob2 wv2 rv2 s2 t5 dv h2 r5 hd hwf hst hz => ?_
    have hlen := h2.len
    try simp only [e_fd, e_nck, e_pkt, e_pkf, e_gdtt, e_gdtf, e_gdft, e_gdff, e_ift, e_iff, e_not, e_ln, e_lnT, e_cp, e_cvi, e_ex20, e_ex21, e_ex30, e_ex31, e_ex32, e_add, e_sub, e_mul, e_quo, e_rem, e_and, e_or, e_xor, e_shl, e_shr, e_eql, e_neq, e_lss, e_leq, e_gtr, e_geq, e_beq, e_bne, e_peq1, e_peq2, e_pne1, e_pne2, e_zeq1, e_zeq2, e_zne1, e_zne2, e_feq1, e_fne1, e_feq2, e_fne2, e_seq, e_sne, e_ta1, e_ta2, Nat.zero_add, Nat.add_zero, Bool.not_true, Bool.not_false]
    refine ld1_r h2.ma.row rfl ?_
    try simp only [e_fd, e_nck, e_pkt, e_pkf, e_gdtt, e_gdtf, e_gdft, e_gdff, e_ift, e_iff, e_not, e_ln, e_lnT, e_cp, e_cvi, e_ex20, e_ex21, e_ex30, e_ex31, e_ex32, e_add, e_sub, e_mul, e_quo, e_rem, e_and, e_or, e_xor, e_shl, e_shr, e_eql, e_neq, e_lss, e_leq, e_gtr, e_geq, e_beq, e_bne, e_peq1, e_peq2, e_pne1, e_pne2, e_zeq1, e_zeq2, e_zne1, e_zne2, e_feq1, e_fne1, e_feq2, e_fne2, e_seq, e_sne, e_ta1, e_ta2, Nat.zero_add, Nat.add_zero, Bool.not_true, Bool.not_false]
    refine ld1_r r5 rfl ?_
    refine refusal_ok h2.ma.wbs (hd.kp' h2.ma.kp) (by omega) (hall _ (List.getElem_mem hj)) fun w3 hk3 => ?_
    simp only [Bool.not_true, e_fd, e_nck, e_pkt, e_pkf, e_gdtt, e_gdtf, e_gdft, e_gdff, e_ift, e_iff, e_not, e_ln, e_lnT, e_cp, e_cvi, e_ex20, e_ex21, e_ex30, e_ex31, e_ex32, e_add, e_sub, e_mul, e_quo, e_rem, e_and, e_or, e_xor, e_shl, e_shr, e_eql, e_neq, e_lss, e_leq, e_gtr, e_geq, e_beq, e_bne, e_peq1, e_peq2, e_pne1, e_pne2, e_zeq1, e_zeq2, e_zne1, e_zne2, e_feq1, e_fne1, e_feq2, e_fne2, e_seq, e_sne, e_ta1, e_ta2, Nat.zero_add, Nat.add_zero, Bool.not_true, Bool.not_false]
    rw [wrap64_id (by omega) (by omega)]
    exact ⟨n - 1, by omega, j + 1, wob2, wv2, rv2, s2, by omega, by simp, h2.kp' hk3⟩
  · have hj' : ¬ ((j : Nat) : Int) < ((ops.length : Nat) : Int) := by omega
    simp only [hj', decide_false, e_fd, e_nck, e_pkt, e_pkf, e_gdtt, e_gdtf, e_gdft, e_gdff, e_ift, e_iff, e_not, e_ln, e_lnT, e_cp, e_cvi, e_ex20, e_ex21, e_ex30, e_ex31, e_ex32, e_add, e_sub, e_mul, e_quo, e_rem, e_and, e_or, e_xor, e_shl, e_shr, e_eql, e_neq, e_lss, e_leq, e_gtr, e_geq, e_beq, e_bne, e_peq1, e_peq2, e_pne1, e_pne2, e_zeq1, e_zeq2, e_zne1, e_zne2, e_feq1, e_fne1, e_feq2, e_fne2, e_seq, e_sne, e_ta1, e_ta2, Nat.zero_add, Nat.add_zero, Bool.not_true, Bool.not_false]
    unfold s8_p1
    exact hK w1 h1.ma.kp
theorem law8_ok {ops : List Op} (hs : Scr W v ops) : cl Try.prog 8 #[v] (fun r w' => r = .bool true ∧ Below W.heap.size W w') W := by
  apply c8
  unfold s8_p4
  refine small_ok hs (Below.refl _ _) fun r hr => ?_
  cases r with
  | false =>
    simp only [Bool.not_false, e_fd, e_nck, e_pkt, e_pkf, e_gdtt, e_gdtf, e_gdft, e_gdff, e_ift, e_iff, e_not, e_ln, e_lnT, e_cp, e_cvi, e_ex20, e_ex21, e_ex30, e_ex31, e_ex32, e_add, e_sub, e_mul, e_quo, e_rem, e_and, e_or, e_xor, e_shl, e_shr, e_eql, e_neq, e_lss, e_leq, e_gtr, e_geq, e_beq, e_bne, e_peq1, e_peq2, e_pne1, e_pne2, e_zeq1, e_zeq2, e_zne1, e_zne2, e_feq1, e_fne1, e_feq2, e_fne2, e_seq, e_sne, e_ta1, e_ta2, Nat.zero_add, Nat.add_zero, Bool.not_true, Bool.not_false]
    exact ⟨trivial, Below.refl _ _⟩
  | true =>
    obtain ⟨hl, hall⟩ := hr rfl
    simp only [Bool.not_true, e_fd, e_nck, e_pkt, e_pkf, e_gdtt, e_gdtf, e_gdft, e_gdff, e_ift, e_iff, e_not, e_ln, e_lnT, e_cp, e_cvi, e_ex20, e_ex21, e_ex30, e_ex31, e_ex32, e_add, e_sub, e_mul, e_quo, e_rem, e_and, e_or, e_xor, e_shl, e_shr, e_eql, e_neq, e_lss, e_leq, e_gtr, e_geq, e_beq, e_bne, e_peq1, e_peq2, e_pne1, e_pne2, e_zeq1, e_zeq2, e_zne1, e_zne2, e_feq1, e_fne1, e_feq2, e_fne2, e_seq, e_sne, e_ta1, e_ta2, Nat.zero_add, Nat.add_zero, Bool.not_true, Bool.not_false]
    refine nw_r fun w1 r1 hk1 hz1 => ?_
    refine hs.ln ?_
    exact law8_loop hs hl hall (LZ.start hk1 r1 (Nat.le_refl _)) fun w' hk => ⟨rfl, hk.below'⟩
theorem law8_walk {ops : List Op} (hs : Scr W v ops) : Calls Try.prog 8 #[v] W fun e w' => e = .returned (.bool true) ∧ Below W.heap.size W w' :=
  Calls.mono (law8_ok hs) fun e w' ⟨r, he, hr, hb⟩ => ⟨by rw [he, hr], hb⟩
end
end Go.Proofs.Qxb6500898a
