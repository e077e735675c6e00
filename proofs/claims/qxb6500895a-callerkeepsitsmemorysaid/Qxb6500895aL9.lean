import Derived.Test.Qxb6500895aD15
namespace Go.Proofs.Qxb6500895a
open Go.Sh Go.RowKit
set_option linter.unusedVariables false
set_option linter.unusedSimpArgs false

theorem set_pre {F : Int → Value} {zs : List Int} {junk : List Value} {i : Nat} (hi : i < zs.length) (y : Int) : (zs.map F ++ junk).set i (F y) = (zs.set i y).map F ++ junk := by
  rw [List.set_append, if_pos (by rw [List.length_map]; exact hi), List.map_set]
theorem get_pre {F : Int → Value} {zs : List Int} {junk : List Value} {i : Nat} (hi : i < zs.length) : (zs.map F ++ junk)[i]? = some (F zs[i]) := by
  rw [List.getElem?_append_left (by rw [List.length_map]; exact hi), List.getElem?_map, List.getElem?_eq_getElem hi]; rfl

section
variable {W w : World} {d1 d2 : Nat} {m1 m2 : Mem} {s : DS} {v : Value} {xs : List Op}

def J9 (W : World) (d1 d2 : Nat) (v : Value) (xs : List Op) (n : Nat) (l : List Value) (w' : World) : Prop :=
  ∃ (j : Nat) (m1 m2 : Mem) (s : DS), j ≤ xs.length ∧ n = xs.length - j ∧ l = [P d1 0, P d2 0, v, I xs.length, I j] ∧ Two W w' d1 d2 m1 m2 s s
abbrev K9 (W : World) : Value → World → Prop := fun r w' => r = .bool true ∧ Below W.heap.size W w'
abbrev B9 (W : World) (d1 d2 : Nat) (v : Value) (xs : List Op) (j : Nat) : List Value → World → Prop := fun l' w' => ∃ n', n' < xs.length - j ∧ J9 W d1 d2 v xs n' l' w'

theorem fin9 {j : Nat} (hj : j < xs.length) (hl : xs.length ≤ 65536) (h : Two W w d1 d2 m1 m2 s s) : s9_p3 (K9 W) (B9 W d1 d2 v xs j) (P d1 0) (P d2 0) v (I xs.length) (I j) w := by
  unfold s9_p3
  refine h.looks fun w1 v1 v2 h1 hk1 hv1 hv2 => ?_
  refine same_ok hv1 hv2 fun w2 hk2 => ?_
  simp only [Bool.not_true, e_fd, e_nck, e_pkt, e_pkf, e_gdtt, e_gdtf, e_gdft, e_gdff, e_ift, e_iff, e_not, e_ln, e_lnT, e_cp, e_cvi, e_ex20, e_ex21, e_ex30, e_ex31, e_ex32, e_add, e_sub, e_mul, e_quo, e_rem, e_and, e_or, e_xor, e_shl, e_shr, e_eql, e_neq, e_lss, e_leq, e_gtr, e_geq, e_beq, e_bne, e_peq1, e_peq2, e_pne1, e_pne2, e_zeq1, e_zeq2, e_zne1, e_zne2, e_feq1, e_fne1, e_feq2, e_fne2, e_seq, e_sne, e_ta1, e_ta2, Nat.zero_add, Nat.add_zero, Bool.not_true, Bool.not_false]
  unfold s9_p2
  simp only [e_fd, e_nck, e_pkt, e_pkf, e_gdtt, e_gdtf, e_gdft, e_gdff, e_ift, e_iff, e_not, e_ln, e_lnT, e_cp, e_cvi, e_ex20, e_ex21, e_ex30, e_ex31, e_ex32, e_add, e_sub, e_mul, e_quo, e_rem, e_and, e_or, e_xor, e_shl, e_shr, e_eql, e_neq, e_lss, e_leq, e_gtr, e_geq, e_beq, e_bne, e_peq1, e_peq2, e_pne1, e_pne2, e_zeq1, e_zeq2, e_zne1, e_zne2, e_feq1, e_fne1, e_feq2, e_fne2, e_seq, e_sne, e_ta1, e_ta2, Nat.zero_add, Nat.add_zero, Bool.not_true, Bool.not_false]
  rw [wrap64_id (by omega) (by omega)]
  exact ⟨xs.length - (j + 1), by omega, j + 1, m1, m2, s, by omega, rfl, by simp, h1.kp' hk2⟩

theorem spoilK {j t7 kb cap : Nat} {c junk : List Value} {zs : List Int} (hj : j < xs.length) (hl : xs.length ≤ 65536) (h : Two W w d1 d2 m1 m2 s s) (r7 : Row w t7 34 c) (hc : c[5]? = some (.slice (some ⟨kb, 0, none⟩) zs.length cap)) (hz : zs.length ≤ 65536)
    (rk : Row w kb 3 (zs.map I ++ junk)) (hn1 : ¬ Own d1 m1 kb) (hn2 : ¬ Own d2 m2 kb) (hf : W.heap.size ≤ kb) : s9_p6 (K9 W) (B9 W d1 d2 v xs j) (P d1 0) (P d2 0) (P t7 0) v (I xs.length) (I j) w := by
  unfold s9_p6
  simp only [e_fd, e_nck, e_pkt, e_pkf, e_gdtt, e_gdtf, e_gdft, e_gdff, e_ift, e_iff, e_not, e_ln, e_lnT, e_cp, e_cvi, e_ex20, e_ex21, e_ex30, e_ex31, e_ex32, e_add, e_sub, e_mul, e_quo, e_rem, e_and, e_or, e_xor, e_shl, e_shr, e_eql, e_neq, e_lss, e_leq, e_gtr, e_geq, e_beq, e_bne, e_peq1, e_peq2, e_pne1, e_pne2, e_zeq1, e_zeq2, e_zne1, e_zne2, e_feq1, e_fne1, e_feq2, e_fne2, e_seq, e_sne, e_ta1, e_ta2, Nat.zero_add, Nat.add_zero, Bool.not_true, Bool.not_false]
  refine ld1_r r7 hc ?_
  simp only [e_fd, e_nck, e_pkt, e_pkf, e_gdtt, e_gdtf, e_gdft, e_gdff, e_ift, e_iff, e_not, e_ln, e_lnT, e_cp, e_cvi, e_ex20, e_ex21, e_ex30, e_ex31, e_ex32, e_add, e_sub, e_mul, e_quo, e_rem, e_and, e_or, e_xor, e_shl, e_shr, e_eql, e_neq, e_lss, e_leq, e_gtr, e_geq, e_beq, e_bne, e_peq1, e_peq2, e_pne1, e_pne2, e_zeq1, e_zeq2, e_zne1, e_zne2, e_feq1, e_fne1, e_feq2, e_fne2, e_seq, e_sne, e_ta1, e_ta2, Nat.zero_add, Nat.add_zero, Bool.not_true, Bool.not_false]
  refine ⟨fun n l w' => ∃ (i : Nat) (ys : List Int), i ≤ zs.length ∧ n = zs.length - i ∧ l = [P d1 0, P d2 0, P t7 0, v, I xs.length, I j, I zs.length, I i] ∧ ys.length = zs.length ∧ Two W w' d1 d2 m1 m2 s s ∧ Row w' t7 34 c ∧ Row w' kb 3 (ys.map I ++ junk),
    zs.length, ⟨0, zs, by omega, by omega, rfl, rfl, h, r7, rk⟩, ?_⟩
  clear h r7 rk
  rintro n l w1 ⟨i, ys, hi, rfl, rfl, hy, h, r7, rk⟩
  rw [s9_p5_Fe]
  unfold s9_p4
  simp only [e_fd, e_nck, e_pkt, e_pkf, e_gdtt, e_gdtf, e_gdft, e_gdff, e_ift, e_iff, e_not, e_ln, e_lnT, e_cp, e_cvi, e_ex20, e_ex21, e_ex30, e_ex31, e_ex32, e_add, e_sub, e_mul, e_quo, e_rem, e_and, e_or, e_xor, e_shl, e_shr, e_eql, e_neq, e_lss, e_leq, e_gtr, e_geq, e_beq, e_bne, e_peq1, e_peq2, e_pne1, e_pne2, e_zeq1, e_zeq2, e_zne1, e_zne2, e_feq1, e_fne1, e_feq2, e_fne2, e_seq, e_sne, e_ta1, e_ta2, Nat.zero_add, Nat.add_zero, Bool.not_true, Bool.not_false]
  by_cases hlt : i < zs.length
  · have hlt' : (i : Int) < ((zs.length : Nat) : Int) := by omega
    simp only [hlt', decide_true, e_fd, e_nck, e_pkt, e_pkf, e_gdtt, e_gdtf, e_gdft, e_gdff, e_ift, e_iff, e_not, e_ln, e_lnT, e_cp, e_cvi, e_ex20, e_ex21, e_ex30, e_ex31, e_ex32, e_add, e_sub, e_mul, e_quo, e_rem, e_and, e_or, e_xor, e_shl, e_shr, e_eql, e_neq, e_lss, e_leq, e_gtr, e_geq, e_beq, e_bne, e_peq1, e_peq2, e_pne1, e_pne2, e_zeq1, e_zeq2, e_zne1, e_zne2, e_feq1, e_fne1, e_feq2, e_fne2, e_seq, e_sne, e_ta1, e_ta2, Nat.zero_add, Nat.add_zero, Bool.not_true, Bool.not_false]
    refine ld1_r r7 hc ?_
    refine ix_b hlt ?_
    refine ld1_r rk (get_pre (by omega)) ?_
    simp only [e_fd, e_nck, e_pkt, e_pkf, e_gdtt, e_gdtf, e_gdft, e_gdff, e_ift, e_iff, e_not, e_ln, e_lnT, e_cp, e_cvi, e_ex20, e_ex21, e_ex30, e_ex31, e_ex32, e_add, e_sub, e_mul, e_quo, e_rem, e_and, e_or, e_xor, e_shl, e_shr, e_eql, e_neq, e_lss, e_leq, e_gtr, e_geq, e_beq, e_bne, e_peq1, e_peq2, e_pne1, e_pne2, e_zeq1, e_zeq2, e_zne1, e_zne2, e_feq1, e_fne1, e_feq2, e_fne2, e_seq, e_sne, e_ta1, e_ta2, Nat.zero_add, Nat.add_zero, Bool.not_true, Bool.not_false]
    refine ix_b hlt ?_
    refine st1_r rk (by simp; omega) rfl fun w2 r2 hk2 hz2 => ?_
    have r2' : Row w2 kb 3 ((ys.set i (IntKind.i64.wrap (ys[i] + 1))).map I ++ junk) := by rw [← set_pre (by omega)]; exact r2
    try simp only [e_fd, e_nck, e_pkt, e_pkf, e_gdtt, e_gdtf, e_gdft, e_gdff, e_ift, e_iff, e_not, e_ln, e_lnT, e_cp, e_cvi, e_ex20, e_ex21, e_ex30, e_ex31, e_ex32, e_add, e_sub, e_mul, e_quo, e_rem, e_and, e_or, e_xor, e_shl, e_shr, e_eql, e_neq, e_lss, e_leq, e_gtr, e_geq, e_beq, e_bne, e_peq1, e_peq2, e_pne1, e_pne2, e_zeq1, e_zeq2, e_zne1, e_zne2, e_feq1, e_fne1, e_feq2, e_fne2, e_seq, e_sne, e_ta1, e_ta2, Nat.zero_add, Nat.add_zero, Bool.not_true, Bool.not_false]
    rw [wrap64_id (n := (i : Int) + 1) (by omega) (by omega)]
    exact ⟨zs.length - (i + 1), by omega, i + 1, _, by omega, rfl, by simp, by rw [List.length_set]; exact hy, h.kp hk2 (fun b (q : b = kb) => by subst q; exact ⟨hn1, hn2, hf⟩), hk2.row r7 (fun (q : _ = _) => row_ne r7 rk (by decide) q), r2'⟩
  · have hlt' : ¬ (i : Int) < ((zs.length : Nat) : Int) := by omega
    simp only [hlt', decide_false, e_fd, e_nck, e_pkt, e_pkf, e_gdtt, e_gdtf, e_gdft, e_gdff, e_ift, e_iff, e_not, e_ln, e_lnT, e_cp, e_cvi, e_ex20, e_ex21, e_ex30, e_ex31, e_ex32, e_add, e_sub, e_mul, e_quo, e_rem, e_and, e_or, e_xor, e_shl, e_shr, e_eql, e_neq, e_lss, e_leq, e_gtr, e_geq, e_beq, e_bne, e_peq1, e_peq2, e_pne1, e_pne2, e_zeq1, e_zeq2, e_zne1, e_zne2, e_feq1, e_fne1, e_feq2, e_fne2, e_seq, e_sne, e_ta1, e_ta2, Nat.zero_add, Nat.add_zero, Bool.not_true, Bool.not_false]
    exact fin9 hj hl h

theorem spoilD {j t7 cb cap kb capk : Nat} {c junk junkk : List Value} {zs ks : List Int} (hj : j < xs.length) (hl : xs.length ≤ 65536) (h : Two W w d1 d2 m1 m2 s s) (r7 : Row w t7 34 c) (hc : c[2]? = some (.slice (some ⟨cb, 0, none⟩) zs.length cap)) (hz : zs.length ≤ 65536)
    (rc : Row w cb 5 (zs.map U8 ++ junk)) (hn1 : ¬ Own d1 m1 cb) (hn2 : ¬ Own d2 m2 cb) (hf : W.heap.size ≤ cb)
    (hck : c[5]? = some (.slice (some ⟨kb, 0, none⟩) ks.length capk)) (hzk : ks.length ≤ 65536)
    (rk : Row w kb 3 (ks.map I ++ junkk)) (hk1 : ¬ Own d1 m1 kb) (hk2 : ¬ Own d2 m2 kb) (hkf : W.heap.size ≤ kb) :
    s9_p8 (K9 W) (B9 W d1 d2 v xs j) (P d1 0) (P d2 0) (P t7 0) v (I xs.length) (I j) (I zs.length) (I 0) w := by
  refine ⟨fun n l w' => ∃ (i : Nat) (ys : List Int), i ≤ zs.length ∧ n = zs.length - i ∧ l = [P d1 0, P d2 0, P t7 0, v, I xs.length, I j, I zs.length, I i] ∧ ys.length = zs.length ∧ Two W w' d1 d2 m1 m2 s s ∧ Row w' t7 34 c ∧ Row w' cb 5 (ys.map U8 ++ junk) ∧ Row w' kb 3 (ks.map I ++ junkk),
    zs.length, ⟨0, zs, by omega, by omega, rfl, rfl, h, r7, rc, rk⟩, ?_⟩
  clear h r7 rk rc
  rintro n l w1 ⟨i, ys, hi, rfl, rfl, hy, h, r7, rc, rk⟩
  rw [s9_p8_Fe]
  unfold s9_p7
  simp only [e_fd, e_nck, e_pkt, e_pkf, e_gdtt, e_gdtf, e_gdft, e_gdff, e_ift, e_iff, e_not, e_ln, e_lnT, e_cp, e_cvi, e_ex20, e_ex21, e_ex30, e_ex31, e_ex32, e_add, e_sub, e_mul, e_quo, e_rem, e_and, e_or, e_xor, e_shl, e_shr, e_eql, e_neq, e_lss, e_leq, e_gtr, e_geq, e_beq, e_bne, e_peq1, e_peq2, e_pne1, e_pne2, e_zeq1, e_zeq2, e_zne1, e_zne2, e_feq1, e_fne1, e_feq2, e_fne2, e_seq, e_sne, e_ta1, e_ta2, Nat.zero_add, Nat.add_zero, Bool.not_true, Bool.not_false]
  by_cases hlt : i < zs.length
  · have hlt' : (i : Int) < ((zs.length : Nat) : Int) := by omega
    simp only [hlt', decide_true, e_fd, e_nck, e_pkt, e_pkf, e_gdtt, e_gdtf, e_gdft, e_gdff, e_ift, e_iff, e_not, e_ln, e_lnT, e_cp, e_cvi, e_ex20, e_ex21, e_ex30, e_ex31, e_ex32, e_add, e_sub, e_mul, e_quo, e_rem, e_and, e_or, e_xor, e_shl, e_shr, e_eql, e_neq, e_lss, e_leq, e_gtr, e_geq, e_beq, e_bne, e_peq1, e_peq2, e_pne1, e_pne2, e_zeq1, e_zeq2, e_zne1, e_zne2, e_feq1, e_fne1, e_feq2, e_fne2, e_seq, e_sne, e_ta1, e_ta2, Nat.zero_add, Nat.add_zero, Bool.not_true, Bool.not_false]
    refine ld1_r r7 hc ?_
    refine ix_b hlt ?_
    refine ld1_r rc (get_pre (by omega)) ?_
    simp only [e_fd, e_nck, e_pkt, e_pkf, e_gdtt, e_gdtf, e_gdft, e_gdff, e_ift, e_iff, e_not, e_ln, e_lnT, e_cp, e_cvi, e_ex20, e_ex21, e_ex30, e_ex31, e_ex32, e_add, e_sub, e_mul, e_quo, e_rem, e_and, e_or, e_xor, e_shl, e_shr, e_eql, e_neq, e_lss, e_leq, e_gtr, e_geq, e_beq, e_bne, e_peq1, e_peq2, e_pne1, e_pne2, e_zeq1, e_zeq2, e_zne1, e_zne2, e_feq1, e_fne1, e_feq2, e_fne2, e_seq, e_sne, e_ta1, e_ta2, Nat.zero_add, Nat.add_zero, Bool.not_true, Bool.not_false]
    refine ix_b hlt ?_
    refine st1_r rc (by simp; omega) rfl fun w2 r2 hk2 hz2 => ?_
    have r2' := r2
    rw [set_pre (by omega)] at r2'
    try simp only [e_fd, e_nck, e_pkt, e_pkf, e_gdtt, e_gdtf, e_gdft, e_gdff, e_ift, e_iff, e_not, e_ln, e_lnT, e_cp, e_cvi, e_ex20, e_ex21, e_ex30, e_ex31, e_ex32, e_add, e_sub, e_mul, e_quo, e_rem, e_and, e_or, e_xor, e_shl, e_shr, e_eql, e_neq, e_lss, e_leq, e_gtr, e_geq, e_beq, e_bne, e_peq1, e_peq2, e_pne1, e_pne2, e_zeq1, e_zeq2, e_zne1, e_zne2, e_feq1, e_fne1, e_feq2, e_fne2, e_seq, e_sne, e_ta1, e_ta2, Nat.zero_add, Nat.add_zero, Bool.not_true, Bool.not_false]
    rw [wrap64_id (n := (i : Int) + 1) (by omega) (by omega)]
    exact ⟨zs.length - (i + 1), by omega, i + 1, _, by omega, rfl, by simp, by rw [List.length_set]; exact hy, h.kp hk2 (fun b (q : b = cb) => by subst q; exact ⟨hn1, hn2, hf⟩), hk2.row r7 (fun (q : _ = _) => row_ne r7 rc (by decide) q), r2', hk2.row rk (fun (q : _ = _) => row_ne rk rc (by decide) q)⟩
  · have hlt' : ¬ (i : Int) < ((zs.length : Nat) : Int) := by omega
    simp only [hlt', decide_false, e_fd, e_nck, e_pkt, e_pkf, e_gdtt, e_gdtf, e_gdft, e_gdff, e_ift, e_iff, e_not, e_ln, e_lnT, e_cp, e_cvi, e_ex20, e_ex21, e_ex30, e_ex31, e_ex32, e_add, e_sub, e_mul, e_quo, e_rem, e_and, e_or, e_xor, e_shl, e_shr, e_eql, e_neq, e_lss, e_leq, e_gtr, e_geq, e_beq, e_bne, e_peq1, e_peq2, e_pne1, e_pne2, e_zeq1, e_zeq2, e_zne1, e_zne2, e_feq1, e_fne1, e_feq2, e_fne2, e_seq, e_sne, e_ta1, e_ta2, Nat.zero_add, Nat.add_zero, Bool.not_true, Bool.not_false]
    exact spoilK hj hl h r7 hck hzk rk hk1 hk2 hkf

theorem law9_loop (hs : Scr W v xs) (hsm : xs.length ≤ 65536 ∧ ∀ x ∈ xs, x.data.length ≤ 65536 ∧ x.keep.length ≤ 65536) (h : Two W w d1 d2 m1 m2 s s) :
    s9_p11 (K9 W) (P d1 0) (P d2 0) v (I xs.length) (I 0) w := by
  refine ⟨J9 W d1 d2 v xs, xs.length, ⟨0, m1, m2, s, by omega, by omega, rfl, h⟩, ?_⟩
  clear h
  rintro n l w ⟨j, m1, m2, s, hj, rfl, rfl, h⟩
  rw [s9_p11_Fe]
  unfold s9_p10
  simp only [e_fd, e_nck, e_pkt, e_pkf, e_gdtt, e_gdtf, e_gdft, e_gdff, e_ift, e_iff, e_not, e_ln, e_lnT, e_cp, e_cvi, e_ex20, e_ex21, e_ex30, e_ex31, e_ex32, e_add, e_sub, e_mul, e_quo, e_rem, e_and, e_or, e_xor, e_shl, e_shr, e_eql, e_neq, e_lss, e_leq, e_gtr, e_geq, e_beq, e_bne, e_peq1, e_peq2, e_pne1, e_pne2, e_zeq1, e_zeq2, e_zne1, e_zne2, e_feq1, e_fne1, e_feq2, e_fne2, e_seq, e_sne, e_ta1, e_ta2, Nat.zero_add, Nat.add_zero, Bool.not_true, Bool.not_false]
  by_cases hlt : j < xs.length
  · have hlt' : (j : Int) < (xs.length : Int) := by omega
    simp only [hlt', decide_true, e_fd, e_nck, e_pkt, e_pkf, e_gdtt, e_gdtf, e_gdft, e_gdff, e_ift, e_iff, e_not, e_ln, e_lnT, e_cp, e_cvi, e_ex20, e_ex21, e_ex30, e_ex31, e_ex32, e_add, e_sub, e_mul, e_quo, e_rem, e_and, e_or, e_xor, e_shl, e_shr, e_eql, e_neq, e_lss, e_leq, e_gtr, e_geq, e_beq, e_bne, e_peq1, e_peq2, e_pne1, e_pne2, e_zeq1, e_zeq2, e_zne1, e_zne2, e_feq1, e_fne1, e_feq2, e_fne2, e_seq, e_sne, e_ta1, e_ta2, Nat.zero_add, Nat.add_zero, Bool.not_true, Bool.not_false]
    obtain ⟨hdl, hkl⟩ := hsm.2 _ (List.getElem_mem hlt)
    unfold s9_p9
    refine hs.take h.a.bel hlt hkl fun w1 ob dv kv hob r1 hk1 hov hdv hkv sdv skv => ?_
    generalize xs[j] = op at *
    refine ldn_r r1 (show 0 + 8 ≤ 8 by decide) ?_
    refine nw_r fun w2 r2 hk2 hz2 => ?_
    refine stn_r r2 rfl (show 0 + 8 ≤ 8 by decide) (show (opc dv kv op).all scal = true by simp only [opc, List.all_cons, sdv, skv]; rfl) fun w3 r3 hk3 hz3 => ?_
    have hk13 : Kp (fun _ => False) w1 w3 := hk2.then hk3 (fun k hk (q : k = _) => by omega)
    have r3' : Row w3 w1.heap.size 34 (opc dv kv op) := r3
    have r13 := hk13.row' r1
    simp only [e_fd, e_nck, e_pkt, e_pkf, e_gdtt, e_gdtf, e_gdft, e_gdff, e_ift, e_iff, e_not, e_ln, e_lnT, e_cp, e_cvi, e_ex20, e_ex21, e_ex30, e_ex31, e_ex32, e_add, e_sub, e_mul, e_quo, e_rem, e_and, e_or, e_xor, e_shl, e_shr, e_eql, e_neq, e_lss, e_leq, e_gtr, e_geq, e_beq, e_bne, e_peq1, e_peq2, e_pne1, e_pne2, e_zeq1, e_zeq2, e_zne1, e_zne2, e_feq1, e_fne1, e_feq2, e_fne2, e_seq, e_sne, e_ta1, e_ta2, Nat.zero_add, Nat.add_zero, Bool.not_true, Bool.not_false]
    refine ld1_r r13 (v := dv) rfl ?_
    refine copyBytes_ok (hdv.kp' hk13) hdl fun w4 cb cap junk hcap hcb rc hk4 => ?_
    refine st1_r (hk4.row' r3') (show 2 < 8 by decide) rfl fun w5 r5 hk5 hz5 => ?_
    have s1 := hk1.size
    have s3 := hk13.size
    have s4 := hk4.size
    have hk15 : Kp (fun b => b = w1.heap.size) w1 w5 := (hk13.trans hk4).none.trans hk5
    have hk05 : Kp (fun _ => False) w w5 := hk1.then hk15 (fun k hk (q : k = _) => by omega)
    have rc5 := hk5.row rc (fun (q : _ = _) => by have := rc.lt; omega)
    refine bsq_r (l := []) (by simp [zrep, fillL]) fun w6 r6 hk6 hz6 => ?_
    have s5 : w5.heap.size = w4.heap.size := hz5
    try simp only [e_fd, e_nck, e_pkt, e_pkf, e_gdtt, e_gdtf, e_gdft, e_gdff, e_ift, e_iff, e_not, e_ln, e_lnT, e_cp, e_cvi, e_ex20, e_ex21, e_ex30, e_ex31, e_ex32, e_add, e_sub, e_mul, e_quo, e_rem, e_and, e_or, e_xor, e_shl, e_shr, e_eql, e_neq, e_lss, e_leq, e_gtr, e_geq, e_beq, e_bne, e_peq1, e_peq2, e_pne1, e_pne2, e_zeq1, e_zeq2, e_zne1, e_zne2, e_feq1, e_fne1, e_feq2, e_fne2, e_seq, e_sne, e_ta1, e_ta2, Nat.zero_add, Nat.add_zero, Bool.not_true, Bool.not_false]
    have hk16 : Kp (fun b => b = w1.heap.size) w1 w6 := hk15.trans hk6.none
    refine ld1_r (hk16.row r1 (fun (q : _ = _) => by have := r1.lt; omega)) (v := kv) rfl ?_
    have hkv6 : Vs I w6 kv op.keep := hov.keepV hk16 (fun b (q : b = _) => by have := h.a.bel.size; omega) hkv
    refine ap_copy1 r6 hkv6 (by omega) (by omega) fun w7 kb capk junkk hcapk hkb rk hk7 => ?_
    have s7 := hk7.size
    have hkb' : w5.heap.size ≤ kb := by rcases hkb with q | q <;> omega
    have r57 := hk7.row' (hk6.row' r5)
    refine st1_r r57 (show 5 < 8 by decide) rfl fun w8 r8 hk8 hz8 => ?_
    have r8' : Row w8 w1.heap.size 34 (opc (.slice (some ⟨cb, 0, none⟩) op.data.length cap) (.slice (some ⟨kb, 0, none⟩) op.keep.length capk) op) := r8
    have hk18 : Kp (fun b => b = w1.heap.size) w1 w8 := (hk16.trans hk7.none).trans hk8
    have hk08 : Kp (fun _ => False) w w8 := hk1.then hk18 (fun k hk (q : k = _) => by omega)
    have rc8 := hk8.row (hk7.row' (hk6.row' rc5)) (fun (q : _ = _) => row_ne rc5 r5 (by decide) q)
    have rk8 := hk8.row rk (fun (q : _ = _) => by omega)
    have r18 := hk18.row r1 (fun (q : _ = _) => by have := r1.lt; omega)
    have h8 := h.kp' hk08
    have hov8 : OpV w8 W.heap.size (.agg (opc dv kv op).toArray) op := hov.kp hk18 (fun b (q : b = _) => by have := h.a.bel.size; omega)
    refine ldn_r r18 (show 0 + 8 ≤ 8 by decide) ?_
    refine h8.play1 (hov8.toQ (fun b q => h.a.far b q)) fun w9 m9 v9 h9 st9 _ => ?_
    have r89 := st9.kp.row r8' (h8.a.dk.ntag r8' (by decide))
    have cbn1 : ¬ Own d1 m1 cb := fun q => by have := h.a.dk.lt q; omega
    have cbn2 : ¬ Own d2 m2 cb := fun q => by have := h.b.dk.lt q; omega
    have kbn1 : ¬ Own d1 m1 kb := fun q => by have := h.a.dk.lt q; omega
    have kbn2 : ¬ Own d2 m2 kb := fun q => by have := h.b.dk.lt q; omega
    have rc9 := st9.kp.row rc8 cbn1
    have rk9 := st9.kp.row rk8 kbn1
    have lc8 := rc8.lt
    have lk8 := rk8.lt
    have cbn1' : ¬ Own d1 m9 cb := fun q => (st9.own _ q).elim cbn1 (fun q => by omega)
    have kbn1' : ¬ Own d1 m9 kb := fun q => (st9.own _ q).elim kbn1 (fun q => by omega)
    refine ldn_r r89 (show 0 + 8 ≤ 8 by decide) ?_
    refine h9.play2 (op := op) ⟨_, _, rfl, vs_row rc9 hcap (by omega), ?_, vs_row rk9 hcapk (by omega), hkl, ?_, fun b o c h0 e => by cases e; exact cbn2, fun b o c h0 e => by cases e; exact kbn2⟩ fun w10 m10 v10 h10 st10 _ => ?_
    · obtain ⟨_, _, _, _, hby, _⟩ := hov; exact hby
    · obtain ⟨_, _, _, _, _, _, _, haf, _⟩ := hov; exact haf
    have r10 := st10.kp.row r89 (h9.b.dk.ntag r89 (by decide))
    have rc10 := st10.kp.row rc9 cbn2
    have rk10 := st10.kp.row rk9 kbn2
    have lc9 := rc9.lt
    have lk9 := rk9.lt
    refine ld1_r r10 (v := .slice (some ⟨cb, 0, none⟩) op.data.length cap) rfl ?_
    simp only [e_fd, e_nck, e_pkt, e_pkf, e_gdtt, e_gdtf, e_gdft, e_gdff, e_ift, e_iff, e_not, e_ln, e_lnT, e_cp, e_cvi, e_ex20, e_ex21, e_ex30, e_ex31, e_ex32, e_add, e_sub, e_mul, e_quo, e_rem, e_and, e_or, e_xor, e_shl, e_shr, e_eql, e_neq, e_lss, e_leq, e_gtr, e_geq, e_beq, e_bne, e_peq1, e_peq2, e_pne1, e_pne2, e_zeq1, e_zeq2, e_zne1, e_zne2, e_feq1, e_fne1, e_feq2, e_fne2, e_seq, e_sne, e_ta1, e_ta2, Nat.zero_add, Nat.add_zero, Bool.not_true, Bool.not_false]
    have hW := h.a.bel.size
    exact spoilD hlt hsm.1 h10 r10 rfl hdl rc10 cbn1' (fun q => (st10.own _ q).elim cbn2 (fun q => by omega)) (by omega) rfl hkl rk10 kbn1' (fun q => (st10.own _ q).elim kbn2 (fun q => by omega)) (by omega)
  · have hlt' : ¬ (j : Int) < (xs.length : Int) := by omega
    simp only [hlt', decide_false, e_fd, e_nck, e_pkt, e_pkf, e_gdtt, e_gdtf, e_gdft, e_gdff, e_ift, e_iff, e_not, e_ln, e_lnT, e_cp, e_cvi, e_ex20, e_ex21, e_ex30, e_ex31, e_ex32, e_add, e_sub, e_mul, e_quo, e_rem, e_and, e_or, e_xor, e_shl, e_shr, e_eql, e_neq, e_lss, e_leq, e_gtr, e_geq, e_beq, e_bne, e_peq1, e_peq2, e_pne1, e_pne2, e_zeq1, e_zeq2, e_zne1, e_zne2, e_feq1, e_fne1, e_feq2, e_fne2, e_seq, e_sne, e_ta1, e_ta2, Nat.zero_add, Nat.add_zero, Bool.not_true, Bool.not_false]
    exact ⟨rfl, h.a.bel⟩

theorem law9 (hs : Scr W v xs) : cl Try.prog 9 #[v] (fun r w' => r = .bool true ∧ Below W.heap.size W w') W := by
  apply c9
  unfold s9_p12
  refine small_ok hs (Below.refl _ _) fun r hr => ?_
  simp only [e_fd, e_nck, e_pkt, e_pkf, e_gdtt, e_gdtf, e_gdft, e_gdff, e_ift, e_iff, e_not, e_ln, e_lnT, e_cp, e_cvi, e_ex20, e_ex21, e_ex30, e_ex31, e_ex32, e_add, e_sub, e_mul, e_quo, e_rem, e_and, e_or, e_xor, e_shl, e_shr, e_eql, e_neq, e_lss, e_leq, e_gtr, e_geq, e_beq, e_bne, e_peq1, e_peq2, e_pne1, e_pne2, e_zeq1, e_zeq2, e_zne1, e_zne2, e_feq1, e_fne1, e_feq2, e_fne2, e_seq, e_sne, e_ta1, e_ta2, Nat.zero_add, Nat.add_zero, Bool.not_true, Bool.not_false]
  cases r with
  | false =>
    simp only [Bool.not_false, e_fd, e_nck, e_pkt, e_pkf, e_gdtt, e_gdtf, e_gdft, e_gdff, e_ift, e_iff, e_not, e_ln, e_lnT, e_cp, e_cvi, e_ex20, e_ex21, e_ex30, e_ex31, e_ex32, e_add, e_sub, e_mul, e_quo, e_rem, e_and, e_or, e_xor, e_shl, e_shr, e_eql, e_neq, e_lss, e_leq, e_gtr, e_geq, e_beq, e_bne, e_peq1, e_peq2, e_pne1, e_pne2, e_zeq1, e_zeq2, e_zne1, e_zne2, e_feq1, e_fne1, e_feq2, e_fne2, e_seq, e_sne, e_ta1, e_ta2, Nat.zero_add, Nat.add_zero, Bool.not_true, Bool.not_false]
    exact ⟨trivial, Below.refl _ _⟩
  | true =>
    have hr := hr rfl
    simp only [Bool.not_true, e_fd, e_nck, e_pkt, e_pkf, e_gdtt, e_gdtf, e_gdft, e_gdff, e_ift, e_iff, e_not, e_ln, e_lnT, e_cp, e_cvi, e_ex20, e_ex21, e_ex30, e_ex31, e_ex32, e_add, e_sub, e_mul, e_quo, e_rem, e_and, e_or, e_xor, e_shl, e_shr, e_eql, e_neq, e_lss, e_leq, e_gtr, e_geq, e_beq, e_bne, e_peq1, e_peq2, e_pne1, e_pne2, e_zeq1, e_zeq2, e_zne1, e_zne2, e_feq1, e_fne1, e_feq2, e_fne2, e_seq, e_sne, e_ta1, e_ta2, Nat.zero_add, Nat.add_zero, Bool.not_true, Bool.not_false]
    refine fresh_ok fun w1 d1 m1 hd1 hfar1 hk1 => ?_
    refine fresh_ok fun w2 d2 m2 hd2 hfar2 hk2 => ?_
    refine hs.ln ?_
    have s1 := hk1.size
    exact law9_loop hs hr ⟨⟨hd1.kp' hk2, hfar1, (hk1.trans hk2).below'⟩, ⟨hd2, fun b q => Nat.le_trans s1 (hfar2 b q), (hk1.trans hk2).below'⟩, fun b q1 q2 => by have := hd1.lt q1; have := hfar2 b q2; omega⟩
theorem law9_walk (hs : Scr W v xs) : Calls Try.prog 9 #[v] W fun e w' => e = .returned (.bool true) ∧ Below W.heap.size W w' :=
  Calls.mono (law9 hs) fun e w' ⟨v, he, hv, hb⟩ => ⟨by rw [he, hv], hb⟩
end
end Go.Proofs.Qxb6500895a
