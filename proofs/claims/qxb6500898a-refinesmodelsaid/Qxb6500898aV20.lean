import Derived.Test.Qxb6500898aV19
namespace Go.Proofs.Qxb6500898a
open Go.Sh Go.RowKit
set_option linter.unusedVariables false
set_option linter.unusedSimpArgs false

section
variable {W w w' w0 w2 : World} {v d t wv rv dv t0 t1 : Value} {ob wob wob0 : Option Nat} {mb b e m n : Nat} {xs ys zs pr da : List Int} {K : Value → World → Prop} {B1 : List Value → World → Prop} {S S' : Nat → Prop} {L : List Value}
theorem bt_at {i j : Nat} (hi : i < 8) : bt xs (8 * j + i) = g xs j / 2 ^ (7 - i) % 2 := by
  unfold bt
  rw [show (8 * j + i) / 8 = j by omega, show (8 * j + i) % 8 = i by omega]
theorem weight {i : Nat} (hi : i < 8) : [I 128, I 64, I 32, I 16, I 8, I 4, I 2, I 1][0 + i]? = some (I (2 ^ (7 - i))) ∧ (0 : Int) < 2 ^ (7 - i) ∧ (2 : Int) ^ (7 - i) ≤ 128 := by
  have : i = 0 ∨ i = 1 ∨ i = 2 ∨ i = 3 ∨ i = 4 ∨ i = 5 ∨ i = 6 ∨ i = 7 := by omega
  rcases this with rfl | rfl | rfl | rfl | rfl | rfl | rfl | rfl <;> exact ⟨rfl, by decide, by decide⟩
theorem bits_inner {t3 t10 : Value} {j c : Nat} (hxl : xs.length ≤ 100000000000) (hx : By xs) (hj : j < xs.length) (hr : Row w c 3 [I 128, I 64, I 32, I 16, I 8, I 4, I 2, I 1]) (hb : w0.heap.size ≤ b) (hne : b ≠ c) (hk0 : Kp (fun _ => False) w0 w) (h3 : Sl n1 1 w 3 (some b) t3 ((bitsOf xs).take (8 * j)))
    (hB : ∀ w' t' b', Sl n1 1 w' 3 (some b') t' ((bitsOf xs).take (8 * (j + 1))) → w0.heap.size ≤ b' → Kp (fun _ => False) w0 w' → B1 [t', v, t10, I ((j + 1 : Nat) : Int)] w') :
    s99_p4 K B1 t3 (U8 (g xs j)) v t10 (I (j : Nat)) (sv c 0 8 8) (I (8 : Nat)) (I (0 : Nat)) w := by
  have gx := g_by hx j
  have bl := bitsOf_len (xs := xs)
  unfold s99_p4
  refine ⟨fun n l w' => ∃ (i b : Nat) (t3 : Value), n + i = 8 ∧ l = [t3, U8 (g xs j), v, t10, I (j : Nat), sv c 0 8 8, I (8 : Nat), I (i : Nat)] ∧ Sl n1 1 w' 3 (some b) t3 ((bitsOf xs).take (8 * j + i)) ∧ Row w' c 3 [I 128, I 64, I 32, I 16, I 8, I 4, I 2, I 1] ∧ w0.heap.size ≤ b ∧ b ≠ c ∧ Kp (fun _ => False) w0 w', 8, ⟨0, b, t3, rfl, rfl, h3, hr, hb, hne, hk0⟩, ?_⟩
  rintro n l w1 ⟨i, b, t3, hn, rfl, s1, r1, hb, hne, hk1⟩
  rw [s99_p4_Fe]
  unfold s99_p3
  try simp only [e_fd, e_nck, e_pkt, e_pkf, e_gdtt, e_gdtf, e_gdft, e_gdff, e_ift, e_iff, e_not, e_ln, e_lnT, e_cp, e_cvi, e_ex20, e_ex21, e_ex30, e_ex31, e_ex32, e_add, e_sub, e_mul, e_quo, e_rem, e_and, e_or, e_xor, e_shl, e_shr, e_eql, e_neq, e_lss, e_leq, e_gtr, e_geq, e_beq, e_bne, e_peq1, e_peq2, e_pne1, e_pne2, e_zeq1, e_zeq2, e_zne1, e_zne2, e_feq1, e_fne1, e_feq2, e_fne2, e_seq, e_sne, e_ta1, e_ta2, Nat.zero_add, Nat.add_zero, Bool.not_true, Bool.not_false]
  by_cases hi : i < 8
  · have hi' : ((i : Nat) : Int) < ((8 : Nat) : Int) := by omega
    simp only [hi', decide_true, e_fd, e_nck, e_pkt, e_pkf, e_gdtt, e_gdtf, e_gdft, e_gdff, e_ift, e_iff, e_not, e_ln, e_lnT, e_cp, e_cvi, e_ex20, e_ex21, e_ex30, e_ex31, e_ex32, e_add, e_sub, e_mul, e_quo, e_rem, e_and, e_or, e_xor, e_shl, e_shr, e_eql, e_neq, e_lss, e_leq, e_gtr, e_geq, e_beq, e_bne, e_peq1, e_peq2, e_pne1, e_pne2, e_zeq1, e_zeq2, e_zne1, e_zne2, e_feq1, e_fne1, e_feq2, e_fne2, e_seq, e_sne, e_ta1, e_ta2, Nat.zero_add, Nat.add_zero, Bool.not_true, Bool.not_false]
    refine ix_sv hi rfl ?_
    obtain ⟨w1', w2', w3'⟩ := weight hi
    refine ld1_r r1 w1' ?_
    try simp only [e_fd, e_nck, e_pkt, e_pkf, e_gdtt, e_gdtf, e_gdft, e_gdff, e_ift, e_iff, e_not, e_ln, e_lnT, e_cp, e_cvi, e_ex20, e_ex21, e_ex30, e_ex31, e_ex32, e_add, e_sub, e_mul, e_quo, e_rem, e_and, e_or, e_xor, e_shl, e_shr, e_eql, e_neq, e_lss, e_leq, e_gtr, e_geq, e_beq, e_bne, e_peq1, e_peq2, e_pne1, e_pne2, e_zeq1, e_zeq2, e_zne1, e_zne2, e_feq1, e_fne1, e_feq2, e_fne2, e_seq, e_sne, e_ta1, e_ta2, Nat.zero_add, Nat.add_zero, Bool.not_true, Bool.not_false]
    rw [wrap64_id (n := g xs j) (by omega) (by omega)]
    refine ⟨by omega, ?_⟩
    refine ⟨by decide, ?_⟩
    have d1 := Int.ediv_nonneg gx.1 (Int.le_of_lt w2')
    have d2 := Int.ediv_le_self (2 ^ (7 - i)) gx.1
    rw [Int.tdiv_eq_ediv_of_nonneg gx.1, wrap64_id (by omega) (by omega), Int.tmod_eq_emod_of_nonneg d1, ← bt_at hi]
    refine app_n1 s1 (by rw [List.length_take]; omega) fun w2 t2 ob2 s2 hk2 ho2 => ?_
    have e1 : (bitsOf xs).take (8 * j + i) ++ [bt xs (8 * j + i)] = (bitsOf xs).take (8 * j + (i + 1)) := by
      rw [← Nat.add_assoc, List.take_succ_eq_append_getElem (show 8 * j + i < (bitsOf xs).length by omega), bitsOf_get]
    rw [e1] at s2
    try simp only [e_fd, e_nck, e_pkt, e_pkf, e_gdtt, e_gdtf, e_gdft, e_gdff, e_ift, e_iff, e_not, e_ln, e_lnT, e_cp, e_cvi, e_ex20, e_ex21, e_ex30, e_ex31, e_ex32, e_add, e_sub, e_mul, e_quo, e_rem, e_and, e_or, e_xor, e_shl, e_shr, e_eql, e_neq, e_lss, e_leq, e_gtr, e_geq, e_beq, e_bne, e_peq1, e_peq2, e_pne1, e_pne2, e_zeq1, e_zeq2, e_zne1, e_zne2, e_feq1, e_fne1, e_feq2, e_fne2, e_seq, e_sne, e_ta1, e_ta2, Nat.zero_add, Nat.add_zero, Bool.not_true, Bool.not_false]
    rw [wrap64_id (by omega) (by omega)]
    have sz := hk1.size
    have k2 : Kp (fun _ => False) w0 w2 := hk1.then hk2 (fun k hk (q : some _ = some k) => by cases q; omega)
    have rc := hk2.row r1 (fun (q : some _ = some c) => by cases q; exact hne rfl)
    have lt := r1.lt
    rcases ho2 with rfl | ⟨b2, rfl, hb2⟩
    · exact ⟨n - 1, by omega, i + 1, b, t2, by omega, by simp, s2, rc, hb, hne, k2⟩
    · exact ⟨n - 1, by omega, i + 1, b2, t2, by omega, by simp, s2, rc, by omega, by omega, k2⟩
  · have hi' : ¬ ((i : Nat) : Int) < ((8 : Nat) : Int) := by omega
    simp only [hi', decide_false, e_fd, e_nck, e_pkt, e_pkf, e_gdtt, e_gdtf, e_gdft, e_gdff, e_ift, e_iff, e_not, e_ln, e_lnT, e_cp, e_cvi, e_ex20, e_ex21, e_ex30, e_ex31, e_ex32, e_add, e_sub, e_mul, e_quo, e_rem, e_and, e_or, e_xor, e_shl, e_shr, e_eql, e_neq, e_lss, e_leq, e_gtr, e_geq, e_beq, e_bne, e_peq1, e_peq2, e_pne1, e_pne2, e_zeq1, e_zeq2, e_zne1, e_zne2, e_feq1, e_fne1, e_feq2, e_fne2, e_seq, e_sne, e_ta1, e_ta2, Nat.zero_add, Nat.add_zero, Bool.not_true, Bool.not_false]
    unfold s99_p2
    try simp only [e_fd, e_nck, e_pkt, e_pkf, e_gdtt, e_gdtf, e_gdft, e_gdff, e_ift, e_iff, e_not, e_ln, e_lnT, e_cp, e_cvi, e_ex20, e_ex21, e_ex30, e_ex31, e_ex32, e_add, e_sub, e_mul, e_quo, e_rem, e_and, e_or, e_xor, e_shl, e_shr, e_eql, e_neq, e_lss, e_leq, e_gtr, e_geq, e_beq, e_bne, e_peq1, e_peq2, e_pne1, e_pne2, e_zeq1, e_zeq2, e_zne1, e_zne2, e_feq1, e_fne1, e_feq2, e_fne2, e_seq, e_sne, e_ta1, e_ta2, Nat.zero_add, Nat.add_zero, Bool.not_true, Bool.not_false]
    rw [wrap64_id (by omega) (by omega)]
    have : i = 8 := by omega
    subst this
    exact hB w1 t3 b s1 hb hk1
theorem bits_ok (h : Bs w v xs) (hxl : xs.length ≤ 100000000000) (hK : NewN w (bitsOf xs) K) : cl Try.prog 99 #[v] K w := by
  have hx : By xs := h.by_
  apply c99
  unfold s99_p8
  refine Sl.empty (f := n1) (k := 1) fun w1 s1 hk1 hz1 => ?_
  refine (h.kp' hk1).ln ?_
  unfold s99_p7
  refine ⟨fun n l w' => ∃ (j b : Nat) (t3 : Value), n + j = xs.length ∧ l = [t3, v, I xs.length, I (j : Nat)] ∧ Sl n1 1 w' 3 (some b) t3 ((bitsOf xs).take (8 * j)) ∧ w.heap.size ≤ b ∧ Kp (fun _ => False) w w', xs.length, ⟨0, w.heap.size, _, rfl, rfl, s1, Nat.le_refl _, hk1⟩, ?_⟩
  rintro n l w2 ⟨j, b, t3, hn, rfl, s2, hb, hk2⟩
  rw [s99_p7_Fe]
  unfold s99_p6
  try simp only [e_fd, e_nck, e_pkt, e_pkf, e_gdtt, e_gdtf, e_gdft, e_gdff, e_ift, e_iff, e_not, e_ln, e_lnT, e_cp, e_cvi, e_ex20, e_ex21, e_ex30, e_ex31, e_ex32, e_add, e_sub, e_mul, e_quo, e_rem, e_and, e_or, e_xor, e_shl, e_shr, e_eql, e_neq, e_lss, e_leq, e_gtr, e_geq, e_beq, e_bne, e_peq1, e_peq2, e_pne1, e_pne2, e_zeq1, e_zeq2, e_zne1, e_zne2, e_feq1, e_fne1, e_feq2, e_fne2, e_seq, e_sne, e_ta1, e_ta2, Nat.zero_add, Nat.add_zero, Bool.not_true, Bool.not_false]
  by_cases hj : j < xs.length
  · have hj' : ((j : Nat) : Int) < ((xs.length : Nat) : Int) := by omega
    simp only [hj', decide_true, e_fd, e_nck, e_pkt, e_pkf, e_gdtt, e_gdtf, e_gdft, e_gdff, e_ift, e_iff, e_not, e_ln, e_lnT, e_cp, e_cvi, e_ex20, e_ex21, e_ex30, e_ex31, e_ex32, e_add, e_sub, e_mul, e_quo, e_rem, e_and, e_or, e_xor, e_shl, e_shr, e_eql, e_neq, e_lss, e_leq, e_gtr, e_geq, e_beq, e_bne, e_peq1, e_peq2, e_pne1, e_pne2, e_zeq1, e_zeq2, e_zne1, e_zne2, e_feq1, e_fne1, e_feq2, e_fne2, e_seq, e_sne, e_ta1, e_ta2, Nat.zero_add, Nat.add_zero, Bool.not_true, Bool.not_false]
    unfold s99_p5
    refine (h.kp' hk2).ixg j rfl hj fun b' q' hld => hld _ ?_
    refine bsq_r (l := [I 128, I 64, I 32, I 16, I 8, I 4, I 2, I 1]) rfl fun w3 r3 hk3 hz3 => ?_
    obtain ⟨lb, rb⟩ := s2.row rfl
    have lt := rb.lt
    refine bits_inner (w0 := w) hxl hx hj r3 hb (by omega) (hk2.trans hk3) (s2.kp' hk3) fun w4 t4 b4 s4 hb4 hk4 => ?_
    exact ⟨n - 1, by omega, j + 1, b4, t4, by omega, rfl, s4, hb4, hk4⟩
  · have hj' : ¬ ((j : Nat) : Int) < ((xs.length : Nat) : Int) := by omega
    simp only [hj', decide_false, e_fd, e_nck, e_pkt, e_pkf, e_gdtt, e_gdtf, e_gdft, e_gdff, e_ift, e_iff, e_not, e_ln, e_lnT, e_cp, e_cvi, e_ex20, e_ex21, e_ex30, e_ex31, e_ex32, e_add, e_sub, e_mul, e_quo, e_rem, e_and, e_or, e_xor, e_shl, e_shr, e_eql, e_neq, e_lss, e_leq, e_gtr, e_geq, e_beq, e_bne, e_peq1, e_peq2, e_pne1, e_pne2, e_zeq1, e_zeq2, e_zne1, e_zne2, e_feq1, e_fne1, e_feq2, e_fne2, e_seq, e_sne, e_ta1, e_ta2, Nat.zero_add, Nat.add_zero, Bool.not_true, Bool.not_false]
    unfold s99_p1
    rw [List.take_of_length_le (by rw [bitsOf_len]; omega)] at s2
    exact hK w2 t3 b s2 hb hk2
theorem oct_step {y : Int} {i : Nat} (hi : i < 8) (hy : 0 ≤ y ∧ y ≤ 255) : 2 * (y / 2 ^ (8 - i)) + y / 2 ^ (7 - i) % 2 = y / 2 ^ (8 - (i + 1)) ∧ 0 ≤ y / 2 ^ (8 - i) ∧ y / 2 ^ (8 - i) ≤ 255 ∧ 0 ≤ y / 2 ^ (7 - i) % 2 ∧ y / 2 ^ (7 - i) % 2 ≤ 1 := by
  have : i = 0 ∨ i = 1 ∨ i = 2 ∨ i = 3 ∨ i = 4 ∨ i = 5 ∨ i = 6 ∨ i = 7 := by omega
  rcases this with rfl | rfl | rfl | rfl | rfl | rfl | rfl | rfl <;> simp only [Nat.reduceSub, Nat.reduceAdd, Int.reducePow] <;> omega
theorem octets_inner {t3 : Value} {j : Nat} (hxl : xs.length ≤ 100000000000) (hx : By xs) (hj : j < xs.length) (hv : ∀ w', Kp (fun _ => False) w w' → Vs I w' v (bitsOf xs)) (hb : w.heap.size ≤ w.heap.size) (h3 : Sl u1 1 w 5 (some b) t3 (xs.take j))
    (hB : ∀ w' t' ob', Sl u1 1 w' 5 ob' t' (xs.take (j + 1)) → Kp (fun k => some b = some k) w w' → (ob' = some b ∨ ∃ b', ob' = some b' ∧ w.heap.size ≤ b') → B1 [v, t', I ((8 * (j + 1) : Nat) : Int)] w') :
    s101_p6 K B1 v t3 (I (8 * j : Nat)) w := by
  have gx := g_by hx j
  have bl := bitsOf_len (xs := xs)
  unfold s101_p6 s101_p5
  refine ⟨fun n l w' => w' = w ∧ ∃ (i : Nat), n + i = 8 ∧ l = [v, t3, I (8 * j : Nat), I (g xs j / 2 ^ (8 - i)), I (i : Nat)], 8, ⟨rfl, 0, rfl, ?_⟩, ?_⟩
  · have : g xs j / 2 ^ (8 - 0) = 0 := by simp only [Nat.reduceSub, Int.reducePow]; omega
    rw [this]; rfl
  rintro n l w1 ⟨rfl, i, hn, rfl⟩
  rw [s101_p5_Fe]
  unfold s101_p4
  try simp only [e_fd, e_nck, e_pkt, e_pkf, e_gdtt, e_gdtf, e_gdft, e_gdff, e_ift, e_iff, e_not, e_ln, e_lnT, e_cp, e_cvi, e_ex20, e_ex21, e_ex30, e_ex31, e_ex32, e_add, e_sub, e_mul, e_quo, e_rem, e_and, e_or, e_xor, e_shl, e_shr, e_eql, e_neq, e_lss, e_leq, e_gtr, e_geq, e_beq, e_bne, e_peq1, e_peq2, e_pne1, e_pne2, e_zeq1, e_zeq2, e_zne1, e_zne2, e_feq1, e_fne1, e_feq2, e_fne2, e_seq, e_sne, e_ta1, e_ta2, Nat.zero_add, Nat.add_zero, Bool.not_true, Bool.not_false]
  by_cases hi : i < 8
  · have hi' : ((i : Nat) : Int) < 8 := by omega
    simp only [hi', decide_true, e_fd, e_nck, e_pkt, e_pkf, e_gdtt, e_gdtf, e_gdft, e_gdff, e_ift, e_iff, e_not, e_ln, e_lnT, e_cp, e_cvi, e_ex20, e_ex21, e_ex30, e_ex31, e_ex32, e_add, e_sub, e_mul, e_quo, e_rem, e_and, e_or, e_xor, e_shl, e_shr, e_eql, e_neq, e_lss, e_leq, e_gtr, e_geq, e_beq, e_bne, e_peq1, e_peq2, e_pne1, e_pne2, e_zeq1, e_zeq2, e_zne1, e_zne2, e_feq1, e_fne1, e_feq2, e_fne2, e_seq, e_sne, e_ta1, e_ta2, Nat.zero_add, Nat.add_zero, Bool.not_true, Bool.not_false]
    obtain ⟨o1, o2, o3, o4, o5⟩ := oct_step hi gx
    have o6 : 0 ≤ 2 * (g xs j / 2 ^ (8 - i)) + g xs j / 2 ^ (7 - i) % 2 ∧ 2 * (g xs j / 2 ^ (8 - i)) + g xs j / 2 ^ (7 - i) % 2 ≤ 511 := by omega
    rw [wrap64_id (n := 2 * (g xs j / 2 ^ (8 - i))) (by omega) (by omega), wrap64_id (n := ((8 * j : Nat) : Int) + ((i : Nat) : Int)) (by omega) (by omega), show ((8 * j : Nat) : Int) + ((i : Nat) : Int) = ((8 * j + i : Nat) : Int) by omega]
    refine (hv _ (Kp.refl _ _)).ix (i := 8 * j + i) (by omega) fun b' q' hld => hld _ ?_
    rw [bitsOf_get, bt_at hi]
    try simp only [e_fd, e_nck, e_pkt, e_pkf, e_gdtt, e_gdtf, e_gdft, e_gdff, e_ift, e_iff, e_not, e_ln, e_lnT, e_cp, e_cvi, e_ex20, e_ex21, e_ex30, e_ex31, e_ex32, e_add, e_sub, e_mul, e_quo, e_rem, e_and, e_or, e_xor, e_shl, e_shr, e_eql, e_neq, e_lss, e_leq, e_gtr, e_geq, e_beq, e_bne, e_peq1, e_peq2, e_pne1, e_pne2, e_zeq1, e_zeq2, e_zne1, e_zne2, e_feq1, e_fne1, e_feq2, e_fne2, e_seq, e_sne, e_ta1, e_ta2, Nat.zero_add, Nat.add_zero, Bool.not_true, Bool.not_false]
    rw [wrap64_id (by omega) (by omega), wrap64_id (by omega) (by omega), o1]
    exact ⟨n - 1, by omega, trivial, i + 1, by omega, by simp⟩
  · have hi' : ¬ ((i : Nat) : Int) < 8 := by omega
    simp only [hi', decide_false, e_fd, e_nck, e_pkt, e_pkf, e_gdtt, e_gdtf, e_gdft, e_gdff, e_ift, e_iff, e_not, e_ln, e_lnT, e_cp, e_cvi, e_ex20, e_ex21, e_ex30, e_ex31, e_ex32, e_add, e_sub, e_mul, e_quo, e_rem, e_and, e_or, e_xor, e_shl, e_shr, e_eql, e_neq, e_lss, e_leq, e_gtr, e_geq, e_beq, e_bne, e_peq1, e_peq2, e_pne1, e_pne2, e_zeq1, e_zeq2, e_zne1, e_zne2, e_feq1, e_fne1, e_feq2, e_fne2, e_seq, e_sne, e_ta1, e_ta2, Nat.zero_add, Nat.add_zero, Bool.not_true, Bool.not_false]
    have : i = 8 := by omega
    subst this
    have e0 : g xs j / 2 ^ (8 - 8) = g xs j := by simp only [Nat.reduceSub, Int.reducePow]; omega
    rw [e0]
    unfold s101_p3
    try simp only [e_fd, e_nck, e_pkt, e_pkf, e_gdtt, e_gdtf, e_gdft, e_gdff, e_ift, e_iff, e_not, e_ln, e_lnT, e_cp, e_cvi, e_ex20, e_ex21, e_ex30, e_ex31, e_ex32, e_add, e_sub, e_mul, e_quo, e_rem, e_and, e_or, e_xor, e_shl, e_shr, e_eql, e_neq, e_lss, e_leq, e_gtr, e_geq, e_beq, e_bne, e_peq1, e_peq2, e_pne1, e_pne2, e_zeq1, e_zeq2, e_zne1, e_zne2, e_feq1, e_fne1, e_feq2, e_fne2, e_seq, e_sne, e_ta1, e_ta2, Nat.zero_add, Nat.add_zero, Bool.not_true, Bool.not_false]
    rw [wrapu8, show g xs j % 256 = g xs j by omega]
    refine app_o1 h3 (by rw [List.length_take]; omega) fun w2 t2 ob2 s2 hk2 ho2 => ?_
    rw [g_get hj, ← List.take_succ_eq_append_getElem hj] at s2
    unfold s101_p2
    try simp only [e_fd, e_nck, e_pkt, e_pkf, e_gdtt, e_gdtf, e_gdft, e_gdff, e_ift, e_iff, e_not, e_ln, e_lnT, e_cp, e_cvi, e_ex20, e_ex21, e_ex30, e_ex31, e_ex32, e_add, e_sub, e_mul, e_quo, e_rem, e_and, e_or, e_xor, e_shl, e_shr, e_eql, e_neq, e_lss, e_leq, e_gtr, e_geq, e_beq, e_bne, e_peq1, e_peq2, e_pne1, e_pne2, e_zeq1, e_zeq2, e_zne1, e_zne2, e_feq1, e_fne1, e_feq2, e_fne2, e_seq, e_sne, e_ta1, e_ta2, Nat.zero_add, Nat.add_zero, Bool.not_true, Bool.not_false]
    rw [wrap64_id (by omega) (by omega), show ((8 * j : Nat) : Int) + 8 = ((8 * (j + 1) : Nat) : Int) by omega]
    exact hB w2 t2 ob2 s2 hk2 ho2
theorem octets_ok (h : Sl n1 1 w 3 ob v (bitsOf xs)) (hx : By xs) (hxl : xs.length ≤ 100000000000) (hK : ∀ w' b v', Sl u1 1 w' 5 (some b) v' xs → w.heap.size ≤ b → Kp (fun _ => False) w w' → K v' w') : cl Try.prog 101 #[v] K w := by
  have bl := bitsOf_len (xs := xs)
  have hv := sl_vs h (by omega)
  apply c101
  unfold s101_p9
  refine Sl.empty (f := u1) (k := 1) fun w1 s1 hk1 hz1 => ?_
  unfold s101_p8
  refine ⟨fun n l w' => ∃ (j b : Nat) (t3 : Value), n + j = xs.length ∧ l = [v, t3, I (8 * j : Nat)] ∧ Sl u1 1 w' 5 (some b) t3 (xs.take j) ∧ w.heap.size ≤ b ∧ Kp (fun _ => False) w w', xs.length, ⟨0, w.heap.size, _, rfl, rfl, s1, Nat.le_refl _, hk1⟩, ?_⟩
  rintro n l w2 ⟨j, b, t3, hn, rfl, s2, hb, hk2⟩
  rw [s101_p8_Fe]
  unfold s101_p7
  try simp only [e_fd, e_nck, e_pkt, e_pkf, e_gdtt, e_gdtf, e_gdft, e_gdff, e_ift, e_iff, e_not, e_ln, e_lnT, e_cp, e_cvi, e_ex20, e_ex21, e_ex30, e_ex31, e_ex32, e_add, e_sub, e_mul, e_quo, e_rem, e_and, e_or, e_xor, e_shl, e_shr, e_eql, e_neq, e_lss, e_leq, e_gtr, e_geq, e_beq, e_bne, e_peq1, e_peq2, e_pne1, e_pne2, e_zeq1, e_zeq2, e_zne1, e_zne2, e_feq1, e_fne1, e_feq2, e_fne2, e_seq, e_sne, e_ta1, e_ta2, Nat.zero_add, Nat.add_zero, Bool.not_true, Bool.not_false]
  rw [wrap64_id (by omega) (by omega)]
  refine (hv.kp' hk2).ln ?_
  try simp only [e_fd, e_nck, e_pkt, e_pkf, e_gdtt, e_gdtf, e_gdft, e_gdff, e_ift, e_iff, e_not, e_ln, e_lnT, e_cp, e_cvi, e_ex20, e_ex21, e_ex30, e_ex31, e_ex32, e_add, e_sub, e_mul, e_quo, e_rem, e_and, e_or, e_xor, e_shl, e_shr, e_eql, e_neq, e_lss, e_leq, e_gtr, e_geq, e_beq, e_bne, e_peq1, e_peq2, e_pne1, e_pne2, e_zeq1, e_zeq2, e_zne1, e_zne2, e_feq1, e_fne1, e_feq2, e_fne2, e_seq, e_sne, e_ta1, e_ta2, Nat.zero_add, Nat.add_zero, Bool.not_true, Bool.not_false]
  by_cases hj : j < xs.length
  · have hj' : ((8 * j : Nat) : Int) + 8 ≤ (((bitsOf xs).length : Nat) : Int) := by omega
    simp only [hj', decide_true, e_fd, e_nck, e_pkt, e_pkf, e_gdtt, e_gdtf, e_gdft, e_gdff, e_ift, e_iff, e_not, e_ln, e_lnT, e_cp, e_cvi, e_ex20, e_ex21, e_ex30, e_ex31, e_ex32, e_add, e_sub, e_mul, e_quo, e_rem, e_and, e_or, e_xor, e_shl, e_shr, e_eql, e_neq, e_lss, e_leq, e_gtr, e_geq, e_beq, e_bne, e_peq1, e_peq2, e_pne1, e_pne2, e_zeq1, e_zeq2, e_zne1, e_zne2, e_feq1, e_fne1, e_feq2, e_fne2, e_seq, e_sne, e_ta1, e_ta2, Nat.zero_add, Nat.add_zero, Bool.not_true, Bool.not_false]
    refine octets_inner hxl hx hj (fun w' hk => hv.kp' (hk2.trans hk)) (Nat.le_refl _) s2 fun w4 t4 ob4 s4 hk4 ho4 => ?_
    have sz := hk2.size
    have k4 : Kp (fun _ => False) w w4 := hk2.then hk4 (fun k hk (q : some _ = some k) => by cases q; omega)
    rcases ho4 with rfl | ⟨b4, rfl, hb4⟩
    · exact ⟨n - 1, by omega, j + 1, b, t4, by omega, rfl, s4, hb, k4⟩
    · exact ⟨n - 1, by omega, j + 1, b4, t4, by omega, rfl, s4, by omega, k4⟩
  · have hj' : ¬ ((8 * j : Nat) : Int) + 8 ≤ (((bitsOf xs).length : Nat) : Int) := by omega
    simp only [hj', decide_false, e_fd, e_nck, e_pkt, e_pkf, e_gdtt, e_gdtf, e_gdft, e_gdff, e_ift, e_iff, e_not, e_ln, e_lnT, e_cp, e_cvi, e_ex20, e_ex21, e_ex30, e_ex31, e_ex32, e_add, e_sub, e_mul, e_quo, e_rem, e_and, e_or, e_xor, e_shl, e_shr, e_eql, e_neq, e_lss, e_leq, e_gtr, e_geq, e_beq, e_bne, e_peq1, e_peq2, e_pne1, e_pne2, e_zeq1, e_zeq2, e_zne1, e_zne2, e_feq1, e_fne1, e_feq2, e_fne2, e_seq, e_sne, e_ta1, e_ta2, Nat.zero_add, Nat.add_zero, Bool.not_true, Bool.not_false]
    unfold s101_p1
    rw [List.take_of_length_le (by omega)] at s2
    exact hK w2 b t3 s2 hb hk2
end
end Go.Proofs.Qxb6500898a
