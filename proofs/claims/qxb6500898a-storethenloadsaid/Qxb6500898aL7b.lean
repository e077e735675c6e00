import Derived.Test.Qxb6500898aL7
namespace Go.Proofs.Qxb6500898a
open Go.Sh Go.RowKit
set_option linter.unusedVariables false
set_option linter.unusedSimpArgs false

section
variable {W w w' w0 w2 : World} {v d t wv rv dv t0 t1 : Value} {ob wob wob0 : Option Nat} {mb t3 t4 b e m n : Nat} {xs ys zs pr da : List Int} {K : Value → World → Prop} {B1 : List Value → World → Prop} {s s' s0 : Mst} {o : Op} {S S' : Nat → Prop} {L : List Value} {off width z : Int} {little : Bool}
theorem store_tail {t10 t11 : Value} (h0 : Bs w t0 xs) (hxl : xs.length ≤ 100000000000) (hw : Wid width) (hz : 0 ≤ z ∧ z ≤ 18446744073709551615) (h10 : Bs w t10 (enc width false z)) (h11 : Bs w t11 (enc width true z))
    (hK : ∀ w', Kp (fun _ => False) w w' → K (.bool true) w') : s25_p10 K t0 (I off) (I width) (.int .u64 z) (.int .u64 (cutV width z)) t10 t11 w := by
  have el0 := enc_len (little := false) (z := z) hw
  have el1 := enc_len (little := true) (z := z) hw
  unfold s25_p10
  refine load_ok hw h10 (by omega) fun w1 k1 => ?_
  have de0 := dec_enc (little := false) (ys := []) hw hz.1 hz.2
  have de1 := dec_enc (little := true) (ys := []) hw hz.1 hz.2
  rw [List.append_nil] at de0 de1
  rw [de0]
  simp only [bne_self_eq_false, e_fd, e_nck, e_pkt, e_pkf, e_gdtt, e_gdtf, e_gdft, e_gdff, e_ift, e_iff, e_not, e_ln, e_lnT, e_cp, e_cvi, e_ex20, e_ex21, e_ex30, e_ex31, e_ex32, e_add, e_sub, e_mul, e_quo, e_rem, e_and, e_or, e_xor, e_shl, e_shr, e_eql, e_neq, e_lss, e_leq, e_gtr, e_geq, e_beq, e_bne, e_peq1, e_peq2, e_pne1, e_pne2, e_zeq1, e_zeq2, e_zne1, e_zne2, e_feq1, e_fne1, e_feq2, e_fne2, e_seq, e_sne, e_ta1, e_ta2, Nat.zero_add, Nat.add_zero, Bool.not_true, Bool.not_false]
  refine load_ok hw (h11.kp' k1) (by omega) fun w2 hk2 => ?_
  have k2 := k1.trans hk2
  rw [de1]
  simp only [bne_self_eq_false, e_fd, e_nck, e_pkt, e_pkf, e_gdtt, e_gdtf, e_gdft, e_gdff, e_ift, e_iff, e_not, e_ln, e_lnT, e_cp, e_cvi, e_ex20, e_ex21, e_ex30, e_ex31, e_ex32, e_add, e_sub, e_mul, e_quo, e_rem, e_and, e_or, e_xor, e_shl, e_shr, e_eql, e_neq, e_lss, e_leq, e_gtr, e_geq, e_beq, e_bne, e_peq1, e_peq2, e_pne1, e_pne2, e_zeq1, e_zeq2, e_zne1, e_zne2, e_feq1, e_fne1, e_feq2, e_fne2, e_seq, e_sne, e_ta1, e_ta2, Nat.zero_add, Nat.add_zero, Bool.not_true, Bool.not_false]
  refine (h0.kp' k2).ln ?_
  refine fits_ok (by omega) ?_
  by_cases hf : ¬ FitsP xs.length off width
  · rw [decide_eq_false hf]
    simp only [Bool.not_false, e_fd, e_nck, e_pkt, e_pkf, e_gdtt, e_gdtf, e_gdft, e_gdff, e_ift, e_iff, e_not, e_ln, e_lnT, e_cp, e_cvi, e_ex20, e_ex21, e_ex30, e_ex31, e_ex32, e_add, e_sub, e_mul, e_quo, e_rem, e_and, e_or, e_xor, e_shl, e_shr, e_eql, e_neq, e_lss, e_leq, e_gtr, e_geq, e_beq, e_bne, e_peq1, e_peq2, e_pne1, e_pne2, e_zeq1, e_zeq2, e_zne1, e_zne2, e_feq1, e_fne1, e_feq2, e_fne2, e_seq, e_sne, e_ta1, e_ta2, Nat.zero_add, Nat.add_zero, Bool.not_true, Bool.not_false]
    refine (h0.kp' k2).ln ?_
    refine inside_ok (by omega) ?_
    rw [decide_eq_false hf]
    simp only [Bool.not_false, e_fd, e_nck, e_pkt, e_pkf, e_gdtt, e_gdtf, e_gdft, e_gdff, e_ift, e_iff, e_not, e_ln, e_lnT, e_cp, e_cvi, e_ex20, e_ex21, e_ex30, e_ex31, e_ex32, e_add, e_sub, e_mul, e_quo, e_rem, e_and, e_or, e_xor, e_shl, e_shr, e_eql, e_neq, e_lss, e_leq, e_gtr, e_geq, e_beq, e_bne, e_peq1, e_peq2, e_pne1, e_pne2, e_zeq1, e_zeq2, e_zne1, e_zne2, e_feq1, e_fne1, e_feq2, e_fne2, e_seq, e_sne, e_ta1, e_ta2, Nat.zero_add, Nat.add_zero, Bool.not_true, Bool.not_false]
    exact hK w2 k2
  have hf' := Decidable.not_not.1 hf
  rw [decide_eq_true hf']
  simp only [Bool.not_true, e_fd, e_nck, e_pkt, e_pkf, e_gdtt, e_gdtf, e_gdft, e_gdff, e_ift, e_iff, e_not, e_ln, e_lnT, e_cp, e_cvi, e_ex20, e_ex21, e_ex30, e_ex31, e_ex32, e_add, e_sub, e_mul, e_quo, e_rem, e_and, e_or, e_xor, e_shl, e_shr, e_eql, e_neq, e_lss, e_leq, e_gtr, e_geq, e_beq, e_bne, e_peq1, e_peq2, e_pne1, e_pne2, e_zeq1, e_zeq2, e_zne1, e_zne2, e_feq1, e_fne1, e_feq2, e_fne2, e_seq, e_sne, e_ta1, e_ta2, Nat.zero_add, Nat.add_zero, Bool.not_true, Bool.not_false]
  refine bsq_r (l := [.bool false, .bool true]) rfl fun w3 r3 hk3 hz3 => ?_
  have k3 := k2.trans hk3
  show s25_p9 K t0 (I off) (I width) (.int .u64 z) (.int .u64 (cutV width z)) (sv w2.heap.size 0 2 2) (I (2 : Nat)) (I (0 : Nat)) w3
  unfold s25_p9
  refine ⟨fun n l w' => ∃ i : Nat, n + i = 2 ∧ l = [t0, I off, I width, .int .u64 z, .int .u64 (cutV width z), sv w2.heap.size 0 2 2, I (2 : Nat), I (i : Nat)] ∧ Kp (fun _ => False) w3 w', 2, ⟨0, rfl, rfl, Kp.refl _ _⟩, ?_⟩
  rintro n l w4 ⟨i, hn, rfl, hk4⟩
  rw [s25_p9_Fe]
  unfold s25_p8
  try simp only [e_fd, e_nck, e_pkt, e_pkf, e_gdtt, e_gdtf, e_gdft, e_gdff, e_ift, e_iff, e_not, e_ln, e_lnT, e_cp, e_cvi, e_ex20, e_ex21, e_ex30, e_ex31, e_ex32, e_add, e_sub, e_mul, e_quo, e_rem, e_and, e_or, e_xor, e_shl, e_shr, e_eql, e_neq, e_lss, e_leq, e_gtr, e_geq, e_beq, e_bne, e_peq1, e_peq2, e_pne1, e_pne2, e_zeq1, e_zeq2, e_zne1, e_zne2, e_feq1, e_fne1, e_feq2, e_fne2, e_seq, e_sne, e_ta1, e_ta2, Nat.zero_add, Nat.add_zero, Bool.not_true, Bool.not_false]
  by_cases hi : i < 2
  · have hi' : ((i : Nat) : Int) < ((2 : Nat) : Int) := by omega
    simp only [hi', decide_true, e_fd, e_nck, e_pkt, e_pkf, e_gdtt, e_gdtf, e_gdft, e_gdff, e_ift, e_iff, e_not, e_ln, e_lnT, e_cp, e_cvi, e_ex20, e_ex21, e_ex30, e_ex31, e_ex32, e_add, e_sub, e_mul, e_quo, e_rem, e_and, e_or, e_xor, e_shl, e_shr, e_eql, e_neq, e_lss, e_leq, e_gtr, e_geq, e_beq, e_bne, e_peq1, e_peq2, e_pne1, e_pne2, e_zeq1, e_zeq2, e_zne1, e_zne2, e_feq1, e_fne1, e_feq2, e_fne2, e_seq, e_sne, e_ta1, e_ta2, Nat.zero_add, Nat.add_zero, Bool.not_true, Bool.not_false]
    refine store_round (h0.kp' (k3.trans hk4)) hxl hw hf' hz (hk4.row' r3) hi fun w5 hk5 => ?_
    exact ⟨n - 1, by omega, i + 1, by omega, rfl, hk4.trans hk5⟩
  · have hi' : ¬ ((i : Nat) : Int) < ((2 : Nat) : Int) := by omega
    simp only [hi', decide_false, e_fd, e_nck, e_pkt, e_pkf, e_gdtt, e_gdtf, e_gdft, e_gdff, e_ift, e_iff, e_not, e_ln, e_lnT, e_cp, e_cvi, e_ex20, e_ex21, e_ex30, e_ex31, e_ex32, e_add, e_sub, e_mul, e_quo, e_rem, e_and, e_or, e_xor, e_shl, e_shr, e_eql, e_neq, e_lss, e_leq, e_gtr, e_geq, e_beq, e_bne, e_peq1, e_peq2, e_pne1, e_pne2, e_zeq1, e_zeq2, e_zne1, e_zne2, e_feq1, e_fne1, e_feq2, e_fne2, e_seq, e_sne, e_ta1, e_ta2, Nat.zero_add, Nat.add_zero, Bool.not_true, Bool.not_false]
    unfold s25_p1
    exact hK w4 (k3.trans hk4)
theorem store_mid (h0 : Bs w t0 xs) (hxl : xs.length ≤ 100000000000) (hw : Wid width) (hz : 0 ≤ z ∧ z ≤ 18446744073709551615)
    (hK : ∀ w', Kp (fun _ => False) w w' → K (.bool true) w') : s25_p17 K t0 (I off) (I width) (.int .u64 z) (.int .u64 (cutV width z)) w := by
  have el0 := enc_len (little := false) (z := z) hw
  have el1 := enc_len (little := true) (z := z) hw
  have hwd : 2 ≤ width ∧ width ≤ 8 := by rcases hw with q | q | q <;> omega
  unfold s25_p17
  refine extend_ok hw (ob := none) ⟨rfl, rfl⟩ (by simp) hz.1 fun w1 t1 ob1 s1 hk1 ho1 => ?_
  have k1 : Kp (fun _ => False) w w1 := hk1.mono fun _ _ q => by cases q
  refine extend_ok hw (ob := none) ⟨rfl, rfl⟩ (by simp) hz.1 fun w2 t2 ob2 s2 hk2 ho2 => ?_
  have hk2' : Kp (fun _ => False) w1 w2 := hk2.mono fun _ _ q => by cases q
  have k2 := k1.trans hk2'
  rw [List.nil_append] at s1 s2
  have b1 := (sl_bs s1 enc_by (by omega)).kp' hk2'
  have b2 := sl_bs s2 enc_by (by omega)
  refine b1.ln ?_
  rw [el0]
  simp only [bne_self_eq_false, e_fd, e_nck, e_pkt, e_pkf, e_gdtt, e_gdtf, e_gdft, e_gdff, e_ift, e_iff, e_not, e_ln, e_lnT, e_cp, e_cvi, e_ex20, e_ex21, e_ex30, e_ex31, e_ex32, e_add, e_sub, e_mul, e_quo, e_rem, e_and, e_or, e_xor, e_shl, e_shr, e_eql, e_neq, e_lss, e_leq, e_gtr, e_geq, e_beq, e_bne, e_peq1, e_peq2, e_pne1, e_pne2, e_zeq1, e_zeq2, e_zne1, e_zne2, e_feq1, e_fne1, e_feq2, e_fne2, e_seq, e_sne, e_ta1, e_ta2, Nat.zero_add, Nat.add_zero, Bool.not_true, Bool.not_false]
  refine b2.ln ?_
  rw [el1]
  simp only [bne_self_eq_false, e_fd, e_nck, e_pkt, e_pkf, e_gdtt, e_gdtf, e_gdft, e_gdff, e_ift, e_iff, e_not, e_ln, e_lnT, e_cp, e_cvi, e_ex20, e_ex21, e_ex30, e_ex31, e_ex32, e_add, e_sub, e_mul, e_quo, e_rem, e_and, e_or, e_xor, e_shl, e_shr, e_eql, e_neq, e_lss, e_leq, e_gtr, e_geq, e_beq, e_bne, e_peq1, e_peq2, e_pne1, e_pne2, e_zeq1, e_zeq2, e_zne1, e_zne2, e_feq1, e_fne1, e_feq2, e_fne2, e_seq, e_sne, e_ta1, e_ta2, Nat.zero_add, Nat.add_zero, Bool.not_true, Bool.not_false]
  refine b1.ln ?_
  rw [el0]
  have hN : ∀ w', Kp (fun _ => False) w2 w' → s25_p10 K t0 (I off) (I width) (.int .u64 z) (.int .u64 (cutV width z)) t1 t2 w' := fun w' hk =>
    store_tail (h0.kp' (k2.trans hk)) hxl hw hz (b1.kp' hk) (b2.kp' hk) fun w3 hk3 => hK w3 ((k2.trans hk).trans hk3)
  unfold s25_p16
  refine ⟨fun n l w' => ∃ i : Nat, n + i = width.toNat ∧ l = [t0, I off, I width, .int .u64 z, .int .u64 (cutV width z), t1, t2, I width, I (i : Nat)] ∧ Kp (fun _ => False) w2 w', width.toNat, ⟨0, rfl, rfl, Kp.refl _ _⟩, ?_⟩
  rintro n l w4 ⟨i, hn, rfl, hk4⟩
  rw [s25_p16_Fe]
  unfold s25_p15
  try simp only [e_fd, e_nck, e_pkt, e_pkf, e_gdtt, e_gdtf, e_gdft, e_gdff, e_ift, e_iff, e_not, e_ln, e_lnT, e_cp, e_cvi, e_ex20, e_ex21, e_ex30, e_ex31, e_ex32, e_add, e_sub, e_mul, e_quo, e_rem, e_and, e_or, e_xor, e_shl, e_shr, e_eql, e_neq, e_lss, e_leq, e_gtr, e_geq, e_beq, e_bne, e_peq1, e_peq2, e_pne1, e_pne2, e_zeq1, e_zeq2, e_zne1, e_zne2, e_feq1, e_fne1, e_feq2, e_fne2, e_seq, e_sne, e_ta1, e_ta2, Nat.zero_add, Nat.add_zero, Bool.not_true, Bool.not_false]
  by_cases hi : i < width.toNat
  · have hi' : ((i : Nat) : Int) < width := by omega
    simp only [hi', decide_true, e_fd, e_nck, e_pkt, e_pkf, e_gdtt, e_gdtf, e_gdft, e_gdff, e_ift, e_iff, e_not, e_ln, e_lnT, e_cp, e_cvi, e_ex20, e_ex21, e_ex30, e_ex31, e_ex32, e_add, e_sub, e_mul, e_quo, e_rem, e_and, e_or, e_xor, e_shl, e_shr, e_eql, e_neq, e_lss, e_leq, e_gtr, e_geq, e_beq, e_bne, e_peq1, e_peq2, e_pne1, e_pne2, e_zeq1, e_zeq2, e_zne1, e_zne2, e_feq1, e_fne1, e_feq2, e_fne2, e_seq, e_sne, e_ta1, e_ta2, Nat.zero_add, Nat.add_zero, Bool.not_true, Bool.not_false]
    unfold s25_p14 s25_p13 s25_p13_d
    have k5 : Kp (fun _ => False) w2 (drw w4) := hk4.trans kp_drw
    generalize drw w4 = w5 at k5 ⊢
    refine (b1.kp' k5).ix (i := i) (by omega) fun b' q' hld => hld _ ?_
    try simp only [e_fd, e_nck, e_pkt, e_pkf, e_gdtt, e_gdtf, e_gdft, e_gdff, e_ift, e_iff, e_not, e_ln, e_lnT, e_cp, e_cvi, e_ex20, e_ex21, e_ex30, e_ex31, e_ex32, e_add, e_sub, e_mul, e_quo, e_rem, e_and, e_or, e_xor, e_shl, e_shr, e_eql, e_neq, e_lss, e_leq, e_gtr, e_geq, e_beq, e_bne, e_peq1, e_peq2, e_pne1, e_pne2, e_zeq1, e_zeq2, e_zne1, e_zne2, e_feq1, e_fne1, e_feq2, e_fne2, e_seq, e_sne, e_ta1, e_ta2, Nat.zero_add, Nat.add_zero, Bool.not_true, Bool.not_false]
    rw [wrap64_id (n := width - 1) (by omega) (by omega), wrap64_id (by omega) (by omega)]
    refine (b2.kp' k5).ixg (width.toNat - 1 - i) (by omega) (by omega) fun b'' q'' hld' => hld' _ ?_
    have eq : (enc width false z)[i]'(by omega) = g (enc width true z) (width.toNat - 1 - i) := by
      have hil : i < (enc width true z).reverse.length := by rw [List.length_reverse]; omega
      have e1 : (enc width false z)[i]'(by omega) = (enc width true z).reverse[i] := by simp only [enc_rev hw]
      rw [e1, List.getElem_reverse, ← g_get]
      congr 1
      omega
    rw [eq]
    simp only [bne_self_eq_false, e_fd, e_nck, e_pkt, e_pkf, e_gdtt, e_gdtf, e_gdft, e_gdff, e_ift, e_iff, e_not, e_ln, e_lnT, e_cp, e_cvi, e_ex20, e_ex21, e_ex30, e_ex31, e_ex32, e_add, e_sub, e_mul, e_quo, e_rem, e_and, e_or, e_xor, e_shl, e_shr, e_eql, e_neq, e_lss, e_leq, e_gtr, e_geq, e_beq, e_bne, e_peq1, e_peq2, e_pne1, e_pne2, e_zeq1, e_zeq2, e_zne1, e_zne2, e_feq1, e_fne1, e_feq2, e_fne2, e_seq, e_sne, e_ta1, e_ta2, Nat.zero_add, Nat.add_zero, Bool.not_true, Bool.not_false]
    unfold s25_p12 s25_p11
    try simp only [e_fd, e_nck, e_pkt, e_pkf, e_gdtt, e_gdtf, e_gdft, e_gdff, e_ift, e_iff, e_not, e_ln, e_lnT, e_cp, e_cvi, e_ex20, e_ex21, e_ex30, e_ex31, e_ex32, e_add, e_sub, e_mul, e_quo, e_rem, e_and, e_or, e_xor, e_shl, e_shr, e_eql, e_neq, e_lss, e_leq, e_gtr, e_geq, e_beq, e_bne, e_peq1, e_peq2, e_pne1, e_pne2, e_zeq1, e_zeq2, e_zne1, e_zne2, e_feq1, e_fne1, e_feq2, e_fne2, e_seq, e_sne, e_ta1, e_ta2, Nat.zero_add, Nat.add_zero, Bool.not_true, Bool.not_false]
    rw [wrap64_id (by omega) (by omega)]
    exact ⟨n - 1, by omega, i + 1, by omega, by simp, k5⟩
  · have hi' : ¬ ((i : Nat) : Int) < width := by omega
    simp only [hi', decide_false, e_fd, e_nck, e_pkt, e_pkf, e_gdtt, e_gdtf, e_gdft, e_gdff, e_ift, e_iff, e_not, e_ln, e_lnT, e_cp, e_cvi, e_ex20, e_ex21, e_ex30, e_ex31, e_ex32, e_add, e_sub, e_mul, e_quo, e_rem, e_and, e_or, e_xor, e_shl, e_shr, e_eql, e_neq, e_lss, e_leq, e_gtr, e_geq, e_beq, e_bne, e_peq1, e_peq2, e_pne1, e_pne2, e_zeq1, e_zeq2, e_zne1, e_zne2, e_feq1, e_fne1, e_feq2, e_fne2, e_seq, e_sne, e_ta1, e_ta2, Nat.zero_add, Nat.add_zero, Bool.not_true, Bool.not_false]
    exact hN w4 hk4
theorem storeHolds_ok (h0 : Bs w t0 xs) (hxl : xs.length ≤ 100000000000) (hw : Wid width) (hz : 0 ≤ z ∧ z ≤ 18446744073709551615)
    (hK : ∀ w', Kp (fun _ => False) w w' → K (.bool true) w') : cl Try.prog 25 #[t0, I off, I width, .int .u64 z] K w := by
  have hm := store_mid (off := off) h0 hxl hw hz hK
  apply c25
  unfold s25_p18
  try simp only [e_fd, e_nck, e_pkt, e_pkf, e_gdtt, e_gdtf, e_gdft, e_gdff, e_ift, e_iff, e_not, e_ln, e_lnT, e_cp, e_cvi, e_ex20, e_ex21, e_ex30, e_ex31, e_ex32, e_add, e_sub, e_mul, e_quo, e_rem, e_and, e_or, e_xor, e_shl, e_shr, e_eql, e_neq, e_lss, e_leq, e_gtr, e_geq, e_beq, e_bne, e_peq1, e_peq2, e_pne1, e_pne2, e_zeq1, e_zeq2, e_zne1, e_zne2, e_feq1, e_fne1, e_feq2, e_fne2, e_seq, e_sne, e_ta1, e_ta2, Nat.zero_add, Nat.add_zero, Bool.not_true, Bool.not_false]
  rcases hw with rfl | rfl | rfl
  · simp only [show ((2 : Int) < 8) = True from by simp, decide_true, e_fd, e_nck, e_pkt, e_pkf, e_gdtt, e_gdtf, e_gdft, e_gdff, e_ift, e_iff, e_not, e_ln, e_lnT, e_cp, e_cvi, e_ex20, e_ex21, e_ex30, e_ex31, e_ex32, e_add, e_sub, e_mul, e_quo, e_rem, e_and, e_or, e_xor, e_shl, e_shr, e_eql, e_neq, e_lss, e_leq, e_gtr, e_geq, e_beq, e_bne, e_peq1, e_peq2, e_pne1, e_pne2, e_zeq1, e_zeq2, e_zne1, e_zne2, e_feq1, e_fne1, e_feq2, e_fne2, e_seq, e_sne, e_ta1, e_ta2, Nat.zero_add, Nat.add_zero, Bool.not_true, Bool.not_false]
    rw [show IntKind.i64.wrap (8 * 2) = 16 from rfl]
    refine ⟨by decide, ?_⟩
    rw [show IntKind.u64.wrap (1 * 2 ^ (min ((16 : Int)).toNat IntKind.u64.bits)) = 65536 from by decide]
    refine ⟨by decide, ?_⟩
    rw [Int.tmod_eq_emod_of_nonneg hz.1]
    exact hm
  · simp only [show ((4 : Int) < 8) = True from by simp, decide_true, e_fd, e_nck, e_pkt, e_pkf, e_gdtt, e_gdtf, e_gdft, e_gdff, e_ift, e_iff, e_not, e_ln, e_lnT, e_cp, e_cvi, e_ex20, e_ex21, e_ex30, e_ex31, e_ex32, e_add, e_sub, e_mul, e_quo, e_rem, e_and, e_or, e_xor, e_shl, e_shr, e_eql, e_neq, e_lss, e_leq, e_gtr, e_geq, e_beq, e_bne, e_peq1, e_peq2, e_pne1, e_pne2, e_zeq1, e_zeq2, e_zne1, e_zne2, e_feq1, e_fne1, e_feq2, e_fne2, e_seq, e_sne, e_ta1, e_ta2, Nat.zero_add, Nat.add_zero, Bool.not_true, Bool.not_false]
    rw [show IntKind.i64.wrap (8 * 4) = 32 from rfl]
    refine ⟨by decide, ?_⟩
    rw [show IntKind.u64.wrap (1 * 2 ^ (min ((32 : Int)).toNat IntKind.u64.bits)) = 4294967296 from by decide]
    refine ⟨by decide, ?_⟩
    rw [Int.tmod_eq_emod_of_nonneg hz.1]
    exact hm
  · simp only [show ((8 : Int) < 8) = False from by simp, decide_false, e_fd, e_nck, e_pkt, e_pkf, e_gdtt, e_gdtf, e_gdft, e_gdff, e_ift, e_iff, e_not, e_ln, e_lnT, e_cp, e_cvi, e_ex20, e_ex21, e_ex30, e_ex31, e_ex32, e_add, e_sub, e_mul, e_quo, e_rem, e_and, e_or, e_xor, e_shl, e_shr, e_eql, e_neq, e_lss, e_leq, e_gtr, e_geq, e_beq, e_bne, e_peq1, e_peq2, e_pne1, e_pne2, e_zeq1, e_zeq2, e_zne1, e_zne2, e_feq1, e_fne1, e_feq2, e_fne2, e_seq, e_sne, e_ta1, e_ta2, Nat.zero_add, Nat.add_zero, Bool.not_true, Bool.not_false]
    exact hm
end
end Go.Proofs.Qxb6500898a
