import Derived.Test.Qxb6500898aV20
namespace Go.Proofs.Qxb6500898a
open Go.Sh Go.RowKit
set_option linter.unusedVariables false
set_option linter.unusedSimpArgs false

/-- turned left by i bits -/
def turnL (xs : List Int) (i : Nat) : List Int := if i = 0 then xs else rotR xs (8 * xs.length - i)
/-- the loop of the append -/
def RotI (w : World) (ob : Option Nat) (t1 : Value) (xs ys : List Int) (c : Nat) (n : Nat) (l : List Value) (w' : World) : Prop := ∃ (j : Nat) (t0' : Value) (ob' : Option Nat), n + j = xs.length ∧ l = [t0', t1, .int .u64 ((c % 8 : Nat) : Int), I ((bk xs.length (c / 8) (if j = xs.length then 0 else j) : Nat) : Int), I ((bk xs.length (c / 8 + 1) (if j = xs.length then 0 else j) : Nat) : Int), I xs.length, I (j : Nat)] ∧ Sl u1 1 w' 5 ob' t0' (ys ++ (rotR xs c).take j) ∧ Kp (fun k => ob = some k) w w' ∧ (ob' = ob ∨ ∃ b, ob' = some b ∧ w.heap.size ≤ b)
section
variable {W w w' w0 w2 : World} {v d t wv rv dv t0 t1 : Value} {ob wob wob0 : Option Nat} {mb b e m n i k : Nat} {xs ys zs pr da : List Int} {K : Value → World → Prop} {B1 : List Value → World → Prop} {S S' : Nat → Prop} {L : List Value} {q : Int}
theorem turnL_len : (turnL xs i).length = xs.length := by unfold turnL; split; rfl; exact rotR_len
theorem turnL_by (h : By xs) : By (turnL xs i) := by unfold turnL; split; exact h; exact h.rotR _
theorem turnL_step (hb : By xs) (hi : i + 1 < 8 * xs.length) : rotR (turnL xs i) (8 * xs.length - 1) = turnL xs (i + 1) := by
  unfold turnL
  rw [if_neg (show ¬ i + 1 = 0 by omega)]
  by_cases h : i = 0
  · rw [if_pos h, h]
  · rw [if_neg h]
    exact rotR_add hb (by omega) (by omega) (by omega) (.inr (by omega))
theorem rotL_e (hb : By xs) (h : 0 < xs.length) : rotL xs q = turnL xs (q % (8 * xs.length)).toNat := by
  unfold rotL turnL
  rw [if_neg (by omega)]
  have b3 := Int.emod_nonneg q (b := (8 * (xs.length : Int))) (by omega)
  have b4 := Int.emod_lt_of_pos q (b := (8 * (xs.length : Int))) (by omega)
  generalize q % (8 * (xs.length : Int)) = r at b3 b4 ⊢
  by_cases h0 : r = 0
  · subst h0
    rw [if_pos (show Int.toNat 0 = 0 from rfl), Int.sub_zero, Int.emod_self]
    exact rotR_0 hb h
  · rw [if_neg (by omega), Int.emod_eq_of_lt (by omega) (by omega)]
    congr 1
    omega
theorem rotL_nil (h : ¬ 0 < xs.length) : rotL xs q = xs := by unfold rotL; rw [if_pos (by omega)]
theorem rotRt_nil (h : ¬ 0 < xs.length) : rotRt xs q = xs := by unfold rotRt; rw [if_pos (by omega)]
theorem rotRt_e (h : 0 < xs.length) : rotRt xs q = rotR xs (q % (8 * xs.length)).toNat := by unfold rotRt; rw [if_neg (by omega)]
/-- the model's turn to the left -/
theorem rotLm_ok (h : Bs w v xs) (hxl : xs.length ≤ 100000000000) (hq : -9223372036854775808 ≤ q ∧ q ≤ 9223372036854775807) (hK : ∀ w' b v', Sl u1 1 w' 5 (some b) v' (rotL xs q) → w.heap.size ≤ b → Kp (fun _ => False) w w' → K v' w') : cl Try.prog 53 #[v, I q] K w := by
  have hx : By xs := h.by_
  have bl := bitsOf_len (xs := xs)
  apply c53
  unfold s53_p4
  refine bits_ok h hxl fun w1 t1 b1 s1 hb1 hk1 => ?_
  refine (sl_vs s1 (by omega)).ln ?_
  rw [bl]
  refine count_ok hq (by omega) ?_
  by_cases hz : 0 < xs.length
  · rw [if_neg (by omega)]
    rw [rotL_e hx hz] at hK
    have ec : ((8 * xs.length : Nat) : Int) = 8 * (xs.length : Int) := by omega
    rw [ec]
    have b3 := Int.emod_nonneg q (b := (8 * (xs.length : Int))) (by omega)
    have b4 := Int.emod_lt_of_pos q (b := (8 * (xs.length : Int))) (by omega)
    generalize q % (8 * (xs.length : Int)) = r at b3 b4 hK ⊢
    obtain ⟨c, rfl⟩ : ∃ c : Nat, r = (c : Int) := ⟨r.toNat, by omega⟩
    rw [Int.toNat_natCast] at hK
    unfold s53_p3
    refine ⟨fun n l w' => ∃ (i b : Nat) (t5 : Value), n + i = c ∧ l = [t5, I (n : Nat)] ∧ Sl n1 1 w' 3 (some b) t5 (bitsOf (turnL xs i)) ∧ w.heap.size ≤ b ∧ Kp (fun _ => False) w w', c, ⟨0, b1, t1, rfl, rfl, s1, hb1, hk1⟩, ?_⟩
    rintro n l w2 ⟨i, b, t5, hn, rfl, s2, hb, hk2⟩
    rw [s53_p3_Fe]
    unfold s53_p2
    try simp only [e_fd, e_nck, e_pkt, e_pkf, e_gdtt, e_gdtf, e_gdft, e_gdff, e_ift, e_iff, e_not, e_ln, e_lnT, e_cp, e_cvi, e_ex20, e_ex21, e_ex30, e_ex31, e_ex32, e_add, e_sub, e_mul, e_quo, e_rem, e_and, e_or, e_xor, e_shl, e_shr, e_eql, e_neq, e_lss, e_leq, e_gtr, e_geq, e_beq, e_bne, e_peq1, e_peq2, e_pne1, e_pne2, e_zeq1, e_zeq2, e_zne1, e_zne2, e_feq1, e_fne1, e_feq2, e_fne2, e_seq, e_sne, e_ta1, e_ta2, Nat.zero_add, Nat.add_zero, Bool.not_true, Bool.not_false]
    have bl2 : (bitsOf (turnL xs i)).length = 8 * xs.length := by rw [bitsOf_len, turnL_len]
    by_cases hi : 0 < n
    · have hi' : (0 : Int) < ((n : Nat) : Int) := by omega
      simp only [hi', decide_true, e_fd, e_nck, e_pkt, e_pkf, e_gdtt, e_gdtf, e_gdft, e_gdff, e_ift, e_iff, e_not, e_ln, e_lnT, e_cp, e_cvi, e_ex20, e_ex21, e_ex30, e_ex31, e_ex32, e_add, e_sub, e_mul, e_quo, e_rem, e_and, e_or, e_xor, e_shl, e_shr, e_eql, e_neq, e_lss, e_leq, e_gtr, e_geq, e_beq, e_bne, e_peq1, e_peq2, e_pne1, e_pne2, e_zeq1, e_zeq2, e_zne1, e_zne2, e_feq1, e_fne1, e_feq2, e_fne2, e_seq, e_sne, e_ta1, e_ta2, Nat.zero_add, Nat.add_zero, Bool.not_true, Bool.not_false]
      refine left1_ok s2 (by omega) (by omega) fun w3 t3 b3 s3 hb3 hk3 => ?_
      try simp only [e_fd, e_nck, e_pkt, e_pkf, e_gdtt, e_gdtf, e_gdft, e_gdff, e_ift, e_iff, e_not, e_ln, e_lnT, e_cp, e_cvi, e_ex20, e_ex21, e_ex30, e_ex31, e_ex32, e_add, e_sub, e_mul, e_quo, e_rem, e_and, e_or, e_xor, e_shl, e_shr, e_eql, e_neq, e_lss, e_leq, e_gtr, e_geq, e_beq, e_bne, e_peq1, e_peq2, e_pne1, e_pne2, e_zeq1, e_zeq2, e_zne1, e_zne2, e_feq1, e_fne1, e_feq2, e_fne2, e_seq, e_sne, e_ta1, e_ta2, Nat.zero_add, Nat.add_zero, Bool.not_true, Bool.not_false]
      rw [← bits_left (turnL_by hx) (by rw [turnL_len]; omega), turnL_len, turnL_step hx (by omega)] at s3
      rw [wrap64_id (by omega) (by omega), show ((n : Nat) : Int) - 1 = ((n - 1 : Nat) : Int) by omega]
      have sz := hk2.size
      exact ⟨n - 1, by omega, i + 1, b3, t3, by omega, rfl, s3, by omega, hk2.trans hk3⟩
    · have hi' : ¬ (0 : Int) < ((n : Nat) : Int) := by omega
      simp only [hi', decide_false, e_fd, e_nck, e_pkt, e_pkf, e_gdtt, e_gdtf, e_gdft, e_gdff, e_ift, e_iff, e_not, e_ln, e_lnT, e_cp, e_cvi, e_ex20, e_ex21, e_ex30, e_ex31, e_ex32, e_add, e_sub, e_mul, e_quo, e_rem, e_and, e_or, e_xor, e_shl, e_shr, e_eql, e_neq, e_lss, e_leq, e_gtr, e_geq, e_beq, e_bne, e_peq1, e_peq2, e_pne1, e_pne2, e_zeq1, e_zeq2, e_zne1, e_zne2, e_feq1, e_fne1, e_feq2, e_fne2, e_seq, e_sne, e_ta1, e_ta2, Nat.zero_add, Nat.add_zero, Bool.not_true, Bool.not_false]
      unfold s53_p1
      have : i = c := by omega
      subst this
      refine octets_ok s2 (turnL_by hx) (by rw [turnL_len]; omega) fun w3 b3 v3 s3 hb3 hk3 => ?_
      have sz := hk2.size
      exact hK w3 b3 v3 s3 (by omega) (hk2.trans hk3)
  · rw [if_pos (by omega)]
    rw [rotL_nil hz] at hK
    unfold s53_p3
    refine ⟨fun n l w' => l = [t1, I 0] ∧ w' = w1, 0, ⟨rfl, rfl⟩, ?_⟩
    rintro n l w2 ⟨rfl, rfl⟩
    rw [s53_p3_Fe]
    unfold s53_p2
    simp only [e_fd, e_nck, e_pkt, e_pkf, e_gdtt, e_gdtf, e_gdft, e_gdff, e_ift, e_iff, e_not, e_ln, e_lnT, e_cp, e_cvi, e_ex20, e_ex21, e_ex30, e_ex31, e_ex32, e_add, e_sub, e_mul, e_quo, e_rem, e_and, e_or, e_xor, e_shl, e_shr, e_eql, e_neq, e_lss, e_leq, e_gtr, e_geq, e_beq, e_bne, e_peq1, e_peq2, e_pne1, e_pne2, e_zeq1, e_zeq2, e_zne1, e_zne2, e_feq1, e_fne1, e_feq2, e_fne2, e_seq, e_sne, e_ta1, e_ta2, Nat.zero_add, Nat.add_zero, Bool.not_true, Bool.not_false, show ((0 : Int) < 0) = False by simp, decide_false]
    unfold s53_p1
    refine octets_ok s1 hx hxl fun w3 b3 v3 s3 hb3 hk3 => ?_
    have sz := hk1.size
    exact hK w3 b3 v3 s3 (by omega) (hk1.trans hk3)
/-- the model's turn to the right -/
theorem rotRm_ok (h : Bs w v xs) (hxl : xs.length ≤ 100000000000) (hq : -9223372036854775808 ≤ q ∧ q ≤ 9223372036854775807) (hK : ∀ w' b v', Sl u1 1 w' 5 (some b) v' (rotRt xs q) → w.heap.size ≤ b → Kp (fun _ => False) w w' → K v' w') : cl Try.prog 54 #[v, I q] K w := by
  have hx : By xs := h.by_
  have bl := bitsOf_len (xs := xs)
  apply c54
  unfold s54_p4
  refine bits_ok h hxl fun w1 t1 b1 s1 hb1 hk1 => ?_
  refine (sl_vs s1 (by omega)).ln ?_
  rw [bl]
  refine count_ok hq (by omega) ?_
  by_cases hz : 0 < xs.length
  · rw [if_neg (by omega)]
    rw [rotRt_e hz] at hK
    have ec : ((8 * xs.length : Nat) : Int) = 8 * (xs.length : Int) := by omega
    rw [ec]
    have b3 := Int.emod_nonneg q (b := (8 * (xs.length : Int))) (by omega)
    have b4 := Int.emod_lt_of_pos q (b := (8 * (xs.length : Int))) (by omega)
    generalize q % (8 * (xs.length : Int)) = r at b3 b4 hK ⊢
    obtain ⟨c, rfl⟩ : ∃ c : Nat, r = (c : Int) := ⟨r.toNat, by omega⟩
    rw [Int.toNat_natCast] at hK
    unfold s54_p3
    refine ⟨fun n l w' => ∃ (i b : Nat) (t5 : Value), n + i = c ∧ l = [t5, I (n : Nat)] ∧ Sl n1 1 w' 3 (some b) t5 (bitsOf (rotR xs i)) ∧ w.heap.size ≤ b ∧ Kp (fun _ => False) w w', c, ⟨0, b1, t1, rfl, rfl, by rw [rotR_0 hx hz]; exact s1, hb1, hk1⟩, ?_⟩
    rintro n l w2 ⟨i, b, t5, hn, rfl, s2, hb, hk2⟩
    rw [s54_p3_Fe]
    unfold s54_p2
    try simp only [e_fd, e_nck, e_pkt, e_pkf, e_gdtt, e_gdtf, e_gdft, e_gdff, e_ift, e_iff, e_not, e_ln, e_lnT, e_cp, e_cvi, e_ex20, e_ex21, e_ex30, e_ex31, e_ex32, e_add, e_sub, e_mul, e_quo, e_rem, e_and, e_or, e_xor, e_shl, e_shr, e_eql, e_neq, e_lss, e_leq, e_gtr, e_geq, e_beq, e_bne, e_peq1, e_peq2, e_pne1, e_pne2, e_zeq1, e_zeq2, e_zne1, e_zne2, e_feq1, e_fne1, e_feq2, e_fne2, e_seq, e_sne, e_ta1, e_ta2, Nat.zero_add, Nat.add_zero, Bool.not_true, Bool.not_false]
    have bl2 : (bitsOf (rotR xs i)).length = 8 * xs.length := by rw [bitsOf_len, rotR_len]
    by_cases hi : 0 < n
    · have hi' : (0 : Int) < ((n : Nat) : Int) := by omega
      simp only [hi', decide_true, e_fd, e_nck, e_pkt, e_pkf, e_gdtt, e_gdtf, e_gdft, e_gdff, e_ift, e_iff, e_not, e_ln, e_lnT, e_cp, e_cvi, e_ex20, e_ex21, e_ex30, e_ex31, e_ex32, e_add, e_sub, e_mul, e_quo, e_rem, e_and, e_or, e_xor, e_shl, e_shr, e_eql, e_neq, e_lss, e_leq, e_gtr, e_geq, e_beq, e_bne, e_peq1, e_peq2, e_pne1, e_pne2, e_zeq1, e_zeq2, e_zne1, e_zne2, e_feq1, e_fne1, e_feq2, e_fne2, e_seq, e_sne, e_ta1, e_ta2, Nat.zero_add, Nat.add_zero, Bool.not_true, Bool.not_false]
      refine right1_ok s2 (by omega) (by omega) fun w3 t3 b3 s3 hb3 hk3 => ?_
      try simp only [e_fd, e_nck, e_pkt, e_pkf, e_gdtt, e_gdtf, e_gdft, e_gdff, e_ift, e_iff, e_not, e_ln, e_lnT, e_cp, e_cvi, e_ex20, e_ex21, e_ex30, e_ex31, e_ex32, e_add, e_sub, e_mul, e_quo, e_rem, e_and, e_or, e_xor, e_shl, e_shr, e_eql, e_neq, e_lss, e_leq, e_gtr, e_geq, e_beq, e_bne, e_peq1, e_peq2, e_pne1, e_pne2, e_zeq1, e_zeq2, e_zne1, e_zne2, e_feq1, e_fne1, e_feq2, e_fne2, e_seq, e_sne, e_ta1, e_ta2, Nat.zero_add, Nat.add_zero, Bool.not_true, Bool.not_false]
      rw [← bits_right (hx.rotR i) (by rw [rotR_len]; omega), rotR_add hx (m := i + 1) (by omega) (by omega) (by omega) (.inl rfl)] at s3
      rw [wrap64_id (by omega) (by omega), show ((n : Nat) : Int) - 1 = ((n - 1 : Nat) : Int) by omega]
      have sz := hk2.size
      exact ⟨n - 1, by omega, i + 1, b3, t3, by omega, rfl, s3, by omega, hk2.trans hk3⟩
    · have hi' : ¬ (0 : Int) < ((n : Nat) : Int) := by omega
      simp only [hi', decide_false, e_fd, e_nck, e_pkt, e_pkf, e_gdtt, e_gdtf, e_gdft, e_gdff, e_ift, e_iff, e_not, e_ln, e_lnT, e_cp, e_cvi, e_ex20, e_ex21, e_ex30, e_ex31, e_ex32, e_add, e_sub, e_mul, e_quo, e_rem, e_and, e_or, e_xor, e_shl, e_shr, e_eql, e_neq, e_lss, e_leq, e_gtr, e_geq, e_beq, e_bne, e_peq1, e_peq2, e_pne1, e_pne2, e_zeq1, e_zeq2, e_zne1, e_zne2, e_feq1, e_fne1, e_feq2, e_fne2, e_seq, e_sne, e_ta1, e_ta2, Nat.zero_add, Nat.add_zero, Bool.not_true, Bool.not_false]
      unfold s54_p1
      have : i = c := by omega
      subst this
      refine octets_ok s2 (hx.rotR i) (by rw [rotR_len]; omega) fun w3 b3 v3 s3 hb3 hk3 => ?_
      have sz := hk2.size
      exact hK w3 b3 v3 s3 (by omega) (hk2.trans hk3)
  · rw [if_pos (by omega)]
    rw [rotRt_nil hz] at hK
    unfold s54_p3
    refine ⟨fun n l w' => l = [t1, I 0] ∧ w' = w1, 0, ⟨rfl, rfl⟩, ?_⟩
    rintro n l w2 ⟨rfl, rfl⟩
    rw [s54_p3_Fe]
    unfold s54_p2
    simp only [e_fd, e_nck, e_pkt, e_pkf, e_gdtt, e_gdtf, e_gdft, e_gdff, e_ift, e_iff, e_not, e_ln, e_lnT, e_cp, e_cvi, e_ex20, e_ex21, e_ex30, e_ex31, e_ex32, e_add, e_sub, e_mul, e_quo, e_rem, e_and, e_or, e_xor, e_shl, e_shr, e_eql, e_neq, e_lss, e_leq, e_gtr, e_geq, e_beq, e_bne, e_peq1, e_peq2, e_pne1, e_pne2, e_zeq1, e_zeq2, e_zne1, e_zne2, e_feq1, e_fne1, e_feq2, e_fne2, e_seq, e_sne, e_ta1, e_ta2, Nat.zero_add, Nat.add_zero, Bool.not_true, Bool.not_false, show ((0 : Int) < 0) = False by simp, decide_false]
    unfold s54_p1
    refine octets_ok s1 hx hxl fun w3 b3 v3 s3 hb3 hk3 => ?_
    have sz := hk1.size
    exact hK w3 b3 v3 s3 (by omega) (hk1.trans hk3)
/-- the octet that is appended -/
theorem rot_oct {p : Nat} {x y : Int} (hp : p ≤ 7) (hx : 0 ≤ x ∧ x ≤ 255) (hy : 0 ≤ y ∧ y ≤ 255) : IntKind.u8.wrap (BitVec.ofInt IntKind.u8.bits (IntKind.u8.wrap (x * 2 ^ (min ((((8 - p : Nat) : Int)).toNat) IntKind.u8.bits))) ||| BitVec.ofInt IntKind.u8.bits (y.fdiv (2 ^ (min (((p : Nat) : Int)).toNat IntKind.u8.bits)))).toNat = if p = 0 then y else cyF p x + y / 2 ^ p := by
  by_cases h : p = 0
  · subst h
    rw [if_pos rfl]
    have e1 : IntKind.u8.wrap (x * 2 ^ (min ((((8 - 0 : Nat) : Int)).toNat) IntKind.u8.bits)) = 0 := by
      rw [wrapu8]
      show x * 256 % 256 = 0
      omega
    have e2 : y.fdiv (2 ^ (min (((0 : Nat) : Int)).toNat IntKind.u8.bits)) = y := by
      show y.fdiv 1 = y
      exact Int.fdiv_one y
    rw [e1, e2]
    exact (or8 8 (M := 256) rfl (by omega) (by omega) hy.1 (by omega) (by omega)).trans (Int.zero_add y)
  · rw [if_neg h, cy_shl (by omega) hp, sh_shr (by omega) hp hy.1, cy_or (by omega) hp hx hy]
theorem bk_0 : bk n 0 i = i := by unfold bk; rw [if_pos (Nat.zero_le _)]; omega
theorem bk_next {j : Nat} (hm : m < n) (hj : j < n) : (if bk n m j + 1 = n then 0 else bk n m j + 1) = bk n m (if j + 1 = n then 0 else j + 1) := by
  by_cases h1 : j + 1 = n
  · rw [if_pos h1]
    by_cases h2 : m ≤ j
    · rw [show bk n m j = j - m by unfold bk; rw [if_pos h2]]
      unfold bk
      split <;> split <;> omega
    · omega
  · rw [if_neg h1]
    by_cases h2 : m ≤ j
    · rw [show bk n m j = j - m by unfold bk; rw [if_pos h2]]
      unfold bk
      split <;> split <;> omega
    · rw [show bk n m j = j + n - m by unfold bk; rw [if_neg h2]]
      unfold bk
      split <;> split <;> omega
/-- append of a turned string -/
theorem appRot_ok (h0 : Sl u1 1 w 5 ob t0 ys) (h1 : Bs w t1 xs) (hd : ∀ w', Kp (fun k => ob = some k) w w' → Bs w' t1 xs) (hyl : ys.length ≤ 100000000000) (hxl : xs.length ≤ 100000000000) (hK : AppK w ob (ys ++ rotRt xs q) K) : cl Try.prog 62 #[t0, t1, I q] K w := by
  have hx : By xs := h1.by_
  apply c62
  unfold s62_p9
  refine h1.ln ?_
  try simp only [e_fd, e_nck, e_pkt, e_pkf, e_gdtt, e_gdtf, e_gdft, e_gdff, e_ift, e_iff, e_not, e_ln, e_lnT, e_cp, e_cvi, e_ex20, e_ex21, e_ex30, e_ex31, e_ex32, e_add, e_sub, e_mul, e_quo, e_rem, e_and, e_or, e_xor, e_shl, e_shr, e_eql, e_neq, e_lss, e_leq, e_gtr, e_geq, e_beq, e_bne, e_peq1, e_peq2, e_pne1, e_pne2, e_zeq1, e_zeq2, e_zne1, e_zne2, e_feq1, e_fne1, e_feq2, e_fne2, e_seq, e_sne, e_ta1, e_ta2, Nat.zero_add, Nat.add_zero, Bool.not_true, Bool.not_false]
  by_cases hz : ¬ 0 < xs.length
  · have e : (((xs.length : Nat) : Int) == 0) = true := by rw [show xs.length = 0 by omega]; rfl
    simp only [e, e_fd, e_nck, e_pkt, e_pkf, e_gdtt, e_gdtf, e_gdft, e_gdff, e_ift, e_iff, e_not, e_ln, e_lnT, e_cp, e_cvi, e_ex20, e_ex21, e_ex30, e_ex31, e_ex32, e_add, e_sub, e_mul, e_quo, e_rem, e_and, e_or, e_xor, e_shl, e_shr, e_eql, e_neq, e_lss, e_leq, e_gtr, e_geq, e_beq, e_bne, e_peq1, e_peq2, e_pne1, e_pne2, e_zeq1, e_zeq2, e_zne1, e_zne2, e_feq1, e_fne1, e_feq2, e_fne2, e_seq, e_sne, e_ta1, e_ta2, Nat.zero_add, Nat.add_zero, Bool.not_true, Bool.not_false]
    rw [rotRt_nil hz, List.eq_nil_of_length_eq_zero (show xs.length = 0 by omega), List.append_nil] at hK
    exact hK w t0 ob h0 (Kp.refl _ _) (.inl rfl)
  have hz' : 0 < xs.length := by omega
  have e : (((xs.length : Nat) : Int) == 0) = false := by rw [beq_eq_false_iff_ne]; omega
  simp only [e, e_fd, e_nck, e_pkt, e_pkf, e_gdtt, e_gdtf, e_gdft, e_gdff, e_ift, e_iff, e_not, e_ln, e_lnT, e_cp, e_cvi, e_ex20, e_ex21, e_ex30, e_ex31, e_ex32, e_add, e_sub, e_mul, e_quo, e_rem, e_and, e_or, e_xor, e_shl, e_shr, e_eql, e_neq, e_lss, e_leq, e_gtr, e_geq, e_beq, e_bne, e_peq1, e_peq2, e_pne1, e_pne2, e_zeq1, e_zeq2, e_zne1, e_zne2, e_feq1, e_fne1, e_feq2, e_fne2, e_seq, e_sne, e_ta1, e_ta2, Nat.zero_add, Nat.add_zero, Bool.not_true, Bool.not_false]
  refine h1.ln ?_
  try simp only [e_fd, e_nck, e_pkt, e_pkf, e_gdtt, e_gdtf, e_gdft, e_gdff, e_ift, e_iff, e_not, e_ln, e_lnT, e_cp, e_cvi, e_ex20, e_ex21, e_ex30, e_ex31, e_ex32, e_add, e_sub, e_mul, e_quo, e_rem, e_and, e_or, e_xor, e_shl, e_shr, e_eql, e_neq, e_lss, e_leq, e_gtr, e_geq, e_beq, e_bne, e_peq1, e_peq2, e_pne1, e_pne2, e_zeq1, e_zeq2, e_zne1, e_zne2, e_feq1, e_fne1, e_feq2, e_fne2, e_seq, e_sne, e_ta1, e_ta2, Nat.zero_add, Nat.add_zero, Bool.not_true, Bool.not_false]
  rw [wrap64_id (by omega) (by omega)]
  refine turns_ok (by omega) (by omega) ?_
  rw [rotRt_e hz'] at hK
  have b3 := Int.emod_nonneg q (b := (8 * (xs.length : Int))) (by omega)
  have b4 := Int.emod_lt_of_pos q (b := (8 * (xs.length : Int))) (by omega)
  generalize q % (8 * (xs.length : Int)) = r at b3 b4 hK ⊢
  obtain ⟨c, rfl⟩ : ∃ c : Nat, r = (c : Int) := ⟨r.toNat, by omega⟩
  rw [Int.toNat_natCast] at hK
  have hc : c < 8 * xs.length := by omega
  try simp only [e_fd, e_nck, e_pkt, e_pkf, e_gdtt, e_gdtf, e_gdft, e_gdff, e_ift, e_iff, e_not, e_ln, e_lnT, e_cp, e_cvi, e_ex20, e_ex21, e_ex30, e_ex31, e_ex32, e_add, e_sub, e_mul, e_quo, e_rem, e_and, e_or, e_xor, e_shl, e_shr, e_eql, e_neq, e_lss, e_leq, e_gtr, e_geq, e_beq, e_bne, e_peq1, e_peq2, e_pne1, e_pne2, e_zeq1, e_zeq2, e_zne1, e_zne2, e_feq1, e_fne1, e_feq2, e_fne2, e_seq, e_sne, e_ta1, e_ta2, Nat.zero_add, Nat.add_zero, Bool.not_true, Bool.not_false]
  refine ⟨by decide, ?_⟩
  have e8 : ((c : Nat) : Int).tmod 8 = ((c % 8 : Nat) : Int) := by rw [Int.tmod_eq_emod_of_nonneg (by omega)]; omega
  have d8 : IntKind.i64.wrap (((c : Nat) : Int).tdiv 8) = ((c / 8 : Nat) : Int) := by
    rw [Int.tdiv_eq_ediv_of_nonneg (by omega), wrap64_id (by omega) (by omega)]; omega
  rw [e8, wrapu64, show ((c % 8 : Nat) : Int) % 18446744073709551616 = ((c % 8 : Nat) : Int) by omega]
  refine h1.ln ?_
  try simp only [e_fd, e_nck, e_pkt, e_pkf, e_gdtt, e_gdtf, e_gdft, e_gdff, e_ift, e_iff, e_not, e_ln, e_lnT, e_cp, e_cvi, e_ex20, e_ex21, e_ex30, e_ex31, e_ex32, e_add, e_sub, e_mul, e_quo, e_rem, e_and, e_or, e_xor, e_shl, e_shr, e_eql, e_neq, e_lss, e_leq, e_gtr, e_geq, e_beq, e_bne, e_peq1, e_peq2, e_pne1, e_pne2, e_zeq1, e_zeq2, e_zne1, e_zne2, e_feq1, e_fne1, e_feq2, e_fne2, e_seq, e_sne, e_ta1, e_ta2, Nat.zero_add, Nat.add_zero, Bool.not_true, Bool.not_false]
  refine ⟨by decide, ?_⟩
  rw [d8, wrap64_id (by omega) (by omega)]
  refine h1.ln ?_
  have main : s62_p8 K t0 t1 (.int .u64 ((c % 8 : Nat) : Int)) (I ((bk xs.length (c / 8) 0 : Nat) : Int)) w := by
    have hb0 : bk xs.length (c / 8) 0 < xs.length := bk_lt (by omega) hz'
    -- the loop
    have loop : s62_p7 K t0 t1 (.int .u64 ((c % 8 : Nat) : Int)) (I ((bk xs.length (c / 8) 0 : Nat) : Int)) (I ((bk xs.length (c / 8 + 1) 0 : Nat) : Int)) w := by
      unfold s62_p7
      refine h1.ln ?_
      unfold s62_p6
      refine ⟨RotI w ob t1 xs ys c, xs.length, ⟨0, t0, ob, rfl, by rw [if_neg (by omega)]; rfl, by simpa using h0, Kp.refl _ _, .inl rfl⟩, ?_⟩
      rintro n l w1 ⟨j, t0', ob', hn, rfl, s1, hk1, ho1⟩
      rw [s62_p6_Fe]
      unfold s62_p5
      try simp only [e_fd, e_nck, e_pkt, e_pkf, e_gdtt, e_gdtf, e_gdft, e_gdff, e_ift, e_iff, e_not, e_ln, e_lnT, e_cp, e_cvi, e_ex20, e_ex21, e_ex30, e_ex31, e_ex32, e_add, e_sub, e_mul, e_quo, e_rem, e_and, e_or, e_xor, e_shl, e_shr, e_eql, e_neq, e_lss, e_leq, e_gtr, e_geq, e_beq, e_bne, e_peq1, e_peq2, e_pne1, e_pne2, e_zeq1, e_zeq2, e_zne1, e_zne2, e_feq1, e_fne1, e_feq2, e_fne2, e_seq, e_sne, e_ta1, e_ta2, Nat.zero_add, Nat.add_zero, Bool.not_true, Bool.not_false]
      have hrl : (rotR xs c).length = xs.length := rotR_len
      by_cases hj : j < xs.length
      · have hj' : ((j : Nat) : Int) < ((xs.length : Nat) : Int) := by omega
        simp only [hj', decide_true, e_fd, e_nck, e_pkt, e_pkf, e_gdtt, e_gdtf, e_gdft, e_gdff, e_ift, e_iff, e_not, e_ln, e_lnT, e_cp, e_cvi, e_ex20, e_ex21, e_ex30, e_ex31, e_ex32, e_add, e_sub, e_mul, e_quo, e_rem, e_and, e_or, e_xor, e_shl, e_shr, e_eql, e_neq, e_lss, e_leq, e_gtr, e_geq, e_beq, e_bne, e_peq1, e_peq2, e_pne1, e_pne2, e_zeq1, e_zeq2, e_zne1, e_zne2, e_feq1, e_fne1, e_feq2, e_fne2, e_seq, e_sne, e_ta1, e_ta2, Nat.zero_add, Nat.add_zero, Bool.not_true, Bool.not_false]
        rw [if_neg (by omega)]
        unfold s62_p4 s62_p4_d
        have kd : Kp (fun _ => False) w1 (drw w1) := kp_drw
        generalize drw w1 = w2 at kd ⊢
        have hk2 : Kp (fun k => ob = some k) w w2 := hk1.then kd (fun _ _ q => q.elim)
        have h12 := hd w2 hk2
        have hpl : bk xs.length (c / 8 + 1) j < xs.length := by unfold bk; split <;> omega
        have hcl : bk xs.length (c / 8) j < xs.length := bk_lt (by omega) hj
        refine h12.ixg (bk xs.length (c / 8 + 1) j) rfl hpl fun b' q' hld => hld _ ?_
        try simp only [e_fd, e_nck, e_pkt, e_pkf, e_gdtt, e_gdtf, e_gdft, e_gdff, e_ift, e_iff, e_not, e_ln, e_lnT, e_cp, e_cvi, e_ex20, e_ex21, e_ex30, e_ex31, e_ex32, e_add, e_sub, e_mul, e_quo, e_rem, e_and, e_or, e_xor, e_shl, e_shr, e_eql, e_neq, e_lss, e_leq, e_gtr, e_geq, e_beq, e_bne, e_peq1, e_peq2, e_pne1, e_pne2, e_zeq1, e_zeq2, e_zne1, e_zne2, e_feq1, e_fne1, e_feq2, e_fne2, e_seq, e_sne, e_ta1, e_ta2, Nat.zero_add, Nat.add_zero, Bool.not_true, Bool.not_false]
        rw [wrapu64, show ((8 : Int) - ((c % 8 : Nat) : Int)) % 18446744073709551616 = ((8 - c % 8 : Nat) : Int) by omega]
        refine ⟨by omega, ?_⟩
        refine h12.ixg (bk xs.length (c / 8) j) rfl hcl fun b'' q'' hld' => hld' _ ?_
        try simp only [e_fd, e_nck, e_pkt, e_pkf, e_gdtt, e_gdtf, e_gdft, e_gdff, e_ift, e_iff, e_not, e_ln, e_lnT, e_cp, e_cvi, e_ex20, e_ex21, e_ex30, e_ex31, e_ex32, e_add, e_sub, e_mul, e_quo, e_rem, e_and, e_or, e_xor, e_shl, e_shr, e_eql, e_neq, e_lss, e_leq, e_gtr, e_geq, e_beq, e_bne, e_peq1, e_peq2, e_pne1, e_pne2, e_zeq1, e_zeq2, e_zne1, e_zne2, e_feq1, e_fne1, e_feq2, e_fne2, e_seq, e_sne, e_ta1, e_ta2, Nat.zero_add, Nat.add_zero, Bool.not_true, Bool.not_false]
        refine ⟨by omega, ?_⟩
        rw [rot_oct (by omega) (g_by hx _) (g_by hx _), ← rotR_g hc hj]
        have s2 := s1.kp' kd
        -- after the append
        have fin : ∀ w3 t3 ob3, Sl u1 1 w3 5 ob3 t3 (ys ++ (rotR xs c).take j ++ [g (rotR xs c) j]) → Kp (fun k => ob' = some k) w2 w3 → (ob3 = ob' ∨ ∃ b, ob3 = some b ∧ w2.heap.size ≤ b) → s62_p3 K (fun l w' => ∃ m, m < n ∧ RotI w ob t1 xs ys c m l w') t3 t1 (.int .u64 ((c % 8 : Nat) : Int)) (I ((bk xs.length (c / 8) j : Nat) : Int)) (I xs.length) (I (j : Nat)) w3 := by
          intro w3 t3 ob3 s3 hk3 ho3
          have sz := hk2.size
          have k3 : Kp (fun k => ob = some k) w w3 := hk2.then hk3 (fun k hk (q : ob' = some k) => by
            rcases ho1 with e | ⟨b, e, hb⟩
            · rw [← e]; exact q
            · rw [e] at q; cases q; omega)
          have o3 : ob3 = ob ∨ ∃ b, ob3 = some b ∧ w.heap.size ≤ b := by
            rcases ho3 with e | ⟨b, e, hb⟩
            · rw [e]; exact ho1
            · exact .inr ⟨b, e, by omega⟩
          rw [List.append_assoc, g_get (by omega), ← List.take_succ_eq_append_getElem (by omega)] at s3
          unfold s62_p3
          try simp only [e_fd, e_nck, e_pkt, e_pkf, e_gdtt, e_gdtf, e_gdft, e_gdff, e_ift, e_iff, e_not, e_ln, e_lnT, e_cp, e_cvi, e_ex20, e_ex21, e_ex30, e_ex31, e_ex32, e_add, e_sub, e_mul, e_quo, e_rem, e_and, e_or, e_xor, e_shl, e_shr, e_eql, e_neq, e_lss, e_leq, e_gtr, e_geq, e_beq, e_bne, e_peq1, e_peq2, e_pne1, e_pne2, e_zeq1, e_zeq2, e_zne1, e_zne2, e_feq1, e_fne1, e_feq2, e_fne2, e_seq, e_sne, e_ta1, e_ta2, Nat.zero_add, Nat.add_zero, Bool.not_true, Bool.not_false]
          rw [wrap64_id (by omega) (by omega)]
          refine (hd w3 k3).ln ?_
          have nxt : ∀ cu : Nat, cu = bk xs.length (c / 8) (if j + 1 = xs.length then 0 else j + 1) → s62_p2 K (fun l w' => ∃ m, m < n ∧ RotI w ob t1 xs ys c m l w') t3 t1 (.int .u64 ((c % 8 : Nat) : Int)) (I (cu : Nat)) (I ((bk xs.length (c / 8) j : Nat) : Int)) (I xs.length) (I (j : Nat)) w3 := by
            rintro cu rfl
            unfold s62_p2
            try simp only [e_fd, e_nck, e_pkt, e_pkf, e_gdtt, e_gdtf, e_gdft, e_gdff, e_ift, e_iff, e_not, e_ln, e_lnT, e_cp, e_cvi, e_ex20, e_ex21, e_ex30, e_ex31, e_ex32, e_add, e_sub, e_mul, e_quo, e_rem, e_and, e_or, e_xor, e_shl, e_shr, e_eql, e_neq, e_lss, e_leq, e_gtr, e_geq, e_beq, e_bne, e_peq1, e_peq2, e_pne1, e_pne2, e_zeq1, e_zeq2, e_zne1, e_zne2, e_feq1, e_fne1, e_feq2, e_fne2, e_seq, e_sne, e_ta1, e_ta2, Nat.zero_add, Nat.add_zero, Bool.not_true, Bool.not_false]
            rw [wrap64_id (by omega) (by omega)]
            have ep : bk xs.length (c / 8) j = bk xs.length (c / 8 + 1) (if j + 1 = xs.length then 0 else j + 1) := by
              unfold bk
              split <;> split <;> split <;> omega
            exact ⟨n - 1, by omega, j + 1, t3, ob3, by omega, by rw [← ep]; simp, s3, k3, o3⟩
          by_cases hw : bk xs.length (c / 8) j + 1 = xs.length
          · have e1 : (((bk xs.length (c / 8) j : Nat) : Int) + 1 == ((xs.length : Nat) : Int)) = true := by rw [beq_iff_eq]; omega
            simp only [e1, e_fd, e_nck, e_pkt, e_pkf, e_gdtt, e_gdtf, e_gdft, e_gdff, e_ift, e_iff, e_not, e_ln, e_lnT, e_cp, e_cvi, e_ex20, e_ex21, e_ex30, e_ex31, e_ex32, e_add, e_sub, e_mul, e_quo, e_rem, e_and, e_or, e_xor, e_shl, e_shr, e_eql, e_neq, e_lss, e_leq, e_gtr, e_geq, e_beq, e_bne, e_peq1, e_peq2, e_pne1, e_pne2, e_zeq1, e_zeq2, e_zne1, e_zne2, e_feq1, e_fne1, e_feq2, e_fne2, e_seq, e_sne, e_ta1, e_ta2, Nat.zero_add, Nat.add_zero, Bool.not_true, Bool.not_false]
            refine nxt 0 ?_
            rw [← bk_next (by omega) hj, if_pos hw]
          · have e1 : (((bk xs.length (c / 8) j : Nat) : Int) + 1 == ((xs.length : Nat) : Int)) = false := by rw [beq_eq_false_iff_ne]; omega
            simp only [e1, e_fd, e_nck, e_pkt, e_pkf, e_gdtt, e_gdtf, e_gdft, e_gdff, e_ift, e_iff, e_not, e_ln, e_lnT, e_cp, e_cvi, e_ex20, e_ex21, e_ex30, e_ex31, e_ex32, e_add, e_sub, e_mul, e_quo, e_rem, e_and, e_or, e_xor, e_shl, e_shr, e_eql, e_neq, e_lss, e_leq, e_gtr, e_geq, e_beq, e_bne, e_peq1, e_peq2, e_pne1, e_pne2, e_zeq1, e_zeq2, e_zne1, e_zne2, e_feq1, e_fne1, e_feq2, e_fne2, e_seq, e_sne, e_ta1, e_ta2, Nat.zero_add, Nat.add_zero, Bool.not_true, Bool.not_false]
            refine nxt (bk xs.length (c / 8) j + 1) ?_
            rw [← bk_next (by omega) hj, if_neg hw]
        have hal : (ys ++ (rotR xs c).take j).length ≤ 4398046511104 := by rw [List.length_append, List.length_take]; omega
        refine ⟨⟨Below.refl _ _, app_o1 s2 hal fin⟩, ?_⟩
        refine bsq_r (l := [U8 (g (rotR xs c) j)]) rfl fun w3 r3 hk3 hz3 => ⟨hk3.below', ?_⟩
        have s3 : Sl u1 1 w3 5 (some w2.heap.size) (sv w2.heap.size 0 1 1) [g (rotR xs c) j] := ⟨1, [], rfl, Nat.le_refl _, rfl, r3⟩
        refine (s2.kp' hk3).app2 u1_len rfl (fun _ _ => rfl) s3 (by rw [List.length_singleton]; omega) (by rw [List.length_singleton]; omega) fun w4 t4 ob4 s4 hk4 ho4 => ?_
        refine fin w4 t4 ob4 s4 ((hk3.mono fun _ _ q => q.elim).trans hk4) ?_
        rcases ho4 with q | ⟨b, q, hb⟩
        · exact .inl q
        · exact .inr ⟨b, q, by omega⟩
      · have hj' : ¬ ((j : Nat) : Int) < ((xs.length : Nat) : Int) := by omega
        simp only [hj', decide_false, e_fd, e_nck, e_pkt, e_pkf, e_gdtt, e_gdtf, e_gdft, e_gdff, e_ift, e_iff, e_not, e_ln, e_lnT, e_cp, e_cvi, e_ex20, e_ex21, e_ex30, e_ex31, e_ex32, e_add, e_sub, e_mul, e_quo, e_rem, e_and, e_or, e_xor, e_shl, e_shr, e_eql, e_neq, e_lss, e_leq, e_gtr, e_geq, e_beq, e_bne, e_peq1, e_peq2, e_pne1, e_pne2, e_zeq1, e_zeq2, e_zne1, e_zne2, e_feq1, e_fne1, e_feq2, e_fne2, e_seq, e_sne, e_ta1, e_ta2, Nat.zero_add, Nat.add_zero, Bool.not_true, Bool.not_false]
        unfold s62_p1
        rw [List.take_of_length_le (by omega)] at s1
        exact hK w1 t0' ob' s1 hk1 ho1
    unfold s62_p8
    try simp only [e_fd, e_nck, e_pkt, e_pkf, e_gdtt, e_gdtf, e_gdft, e_gdff, e_ift, e_iff, e_not, e_ln, e_lnT, e_cp, e_cvi, e_ex20, e_ex21, e_ex30, e_ex31, e_ex32, e_add, e_sub, e_mul, e_quo, e_rem, e_and, e_or, e_xor, e_shl, e_shr, e_eql, e_neq, e_lss, e_leq, e_gtr, e_geq, e_beq, e_bne, e_peq1, e_peq2, e_pne1, e_pne2, e_zeq1, e_zeq2, e_zne1, e_zne2, e_feq1, e_fne1, e_feq2, e_fne2, e_seq, e_sne, e_ta1, e_ta2, Nat.zero_add, Nat.add_zero, Bool.not_true, Bool.not_false]
    rw [wrap64_id (by omega) (by omega)]
    by_cases hm : bk xs.length (c / 8) 0 = 0
    · have e1 : ((bk xs.length (c / 8) 0 : Nat) : Int) - 1 < 0 := by omega
      simp only [e1, decide_true, e_fd, e_nck, e_pkt, e_pkf, e_gdtt, e_gdtf, e_gdft, e_gdff, e_ift, e_iff, e_not, e_ln, e_lnT, e_cp, e_cvi, e_ex20, e_ex21, e_ex30, e_ex31, e_ex32, e_add, e_sub, e_mul, e_quo, e_rem, e_and, e_or, e_xor, e_shl, e_shr, e_eql, e_neq, e_lss, e_leq, e_gtr, e_geq, e_beq, e_bne, e_peq1, e_peq2, e_pne1, e_pne2, e_zeq1, e_zeq2, e_zne1, e_zne2, e_feq1, e_fne1, e_feq2, e_fne2, e_seq, e_sne, e_ta1, e_ta2, Nat.zero_add, Nat.add_zero, Bool.not_true, Bool.not_false]
      refine h1.ln ?_
      try simp only [e_fd, e_nck, e_pkt, e_pkf, e_gdtt, e_gdtf, e_gdft, e_gdff, e_ift, e_iff, e_not, e_ln, e_lnT, e_cp, e_cvi, e_ex20, e_ex21, e_ex30, e_ex31, e_ex32, e_add, e_sub, e_mul, e_quo, e_rem, e_and, e_or, e_xor, e_shl, e_shr, e_eql, e_neq, e_lss, e_leq, e_gtr, e_geq, e_beq, e_bne, e_peq1, e_peq2, e_pne1, e_pne2, e_zeq1, e_zeq2, e_zne1, e_zne2, e_feq1, e_fne1, e_feq2, e_fne2, e_seq, e_sne, e_ta1, e_ta2, Nat.zero_add, Nat.add_zero, Bool.not_true, Bool.not_false]
      rw [wrap64_id (by omega) (by omega)]
      have e2 : ((xs.length : Nat) : Int) - 1 = ((bk xs.length (c / 8 + 1) 0 : Nat) : Int) := by
        unfold bk at hm ⊢
        split at hm <;> split <;> omega
      rw [e2]
      exact loop
    · have e1 : ¬ ((bk xs.length (c / 8) 0 : Nat) : Int) - 1 < 0 := by omega
      simp only [e1, decide_false, e_fd, e_nck, e_pkt, e_pkf, e_gdtt, e_gdtf, e_gdft, e_gdff, e_ift, e_iff, e_not, e_ln, e_lnT, e_cp, e_cvi, e_ex20, e_ex21, e_ex30, e_ex31, e_ex32, e_add, e_sub, e_mul, e_quo, e_rem, e_and, e_or, e_xor, e_shl, e_shr, e_eql, e_neq, e_lss, e_leq, e_gtr, e_geq, e_beq, e_bne, e_peq1, e_peq2, e_pne1, e_pne2, e_zeq1, e_zeq2, e_zne1, e_zne2, e_feq1, e_fne1, e_feq2, e_fne2, e_seq, e_sne, e_ta1, e_ta2, Nat.zero_add, Nat.add_zero, Bool.not_true, Bool.not_false]
      have e2 : ((bk xs.length (c / 8) 0 : Nat) : Int) - 1 = ((bk xs.length (c / 8 + 1) 0 : Nat) : Int) := by
        unfold bk at hm ⊢
        split at hm <;> split <;> split <;> omega
      rw [e2]
      exact loop
  by_cases hm : c / 8 = 0
  · have e1 : (((xs.length : Nat) : Int) - ((c / 8 : Nat) : Int) == ((xs.length : Nat) : Int)) = true := by rw [beq_iff_eq]; omega
    simp only [e1, e_fd, e_nck, e_pkt, e_pkf, e_gdtt, e_gdtf, e_gdft, e_gdff, e_ift, e_iff, e_not, e_ln, e_lnT, e_cp, e_cvi, e_ex20, e_ex21, e_ex30, e_ex31, e_ex32, e_add, e_sub, e_mul, e_quo, e_rem, e_and, e_or, e_xor, e_shl, e_shr, e_eql, e_neq, e_lss, e_leq, e_gtr, e_geq, e_beq, e_bne, e_peq1, e_peq2, e_pne1, e_pne2, e_zeq1, e_zeq2, e_zne1, e_zne2, e_feq1, e_fne1, e_feq2, e_fne2, e_seq, e_sne, e_ta1, e_ta2, Nat.zero_add, Nat.add_zero, Bool.not_true, Bool.not_false]
    have : bk xs.length (c / 8) 0 = 0 := by rw [hm, bk_0]
    rw [this] at main
    exact main
  · have e1 : (((xs.length : Nat) : Int) - ((c / 8 : Nat) : Int) == ((xs.length : Nat) : Int)) = false := by rw [beq_eq_false_iff_ne]; omega
    simp only [e1, e_fd, e_nck, e_pkt, e_pkf, e_gdtt, e_gdtf, e_gdft, e_gdff, e_ift, e_iff, e_not, e_ln, e_lnT, e_cp, e_cvi, e_ex20, e_ex21, e_ex30, e_ex31, e_ex32, e_add, e_sub, e_mul, e_quo, e_rem, e_and, e_or, e_xor, e_shl, e_shr, e_eql, e_neq, e_lss, e_leq, e_gtr, e_geq, e_beq, e_bne, e_peq1, e_peq2, e_pne1, e_pne2, e_zeq1, e_zeq2, e_zne1, e_zne2, e_feq1, e_fne1, e_feq2, e_fne2, e_seq, e_sne, e_ta1, e_ta2, Nat.zero_add, Nat.add_zero, Bool.not_true, Bool.not_false]
    have : ((bk xs.length (c / 8) 0 : Nat) : Int) = ((xs.length : Nat) : Int) - ((c / 8 : Nat) : Int) := by unfold bk; split <;> omega
    rw [this] at main
    exact main
end
end Go.Proofs.Qxb6500898a
