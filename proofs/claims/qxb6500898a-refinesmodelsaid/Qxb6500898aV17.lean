import Derived.Test.Qxb6500898aL8
namespace Go.Proofs.Qxb6500898a
open Go.Sh Go.RowKit
set_option linter.unusedVariables false
set_option linter.unusedSimpArgs false

section
variable {W w w' w0 w2 : World} {v d t wv rv dv t0 t1 : Value} {ob wob wob0 : Option Nat} {mb t3 t4 b e m n : Nat} {xs ys zs pr da : List Int} {K : Value → World → Prop} {s s' s0 : Mst} {o : Op} {S S' : Nat → Prop} {L : List Value}
/-- one octet more -/
theorem app_o1 {a : Int} (h : Sl u1 1 w 5 ob v ys) (hl : ys.length ≤ 4398046511104) (hK : AppK w ob (ys ++ [a]) K) : bsq 5 [(.int .u8 0)] 1 [(some (0, 1), U8 a)] (fun t w => apq 5 [(.int .u8 0)] 1 v t K w) w :=
  h.app u1_len rfl a rfl (by omega) (by omega) rfl hK
/-- the model's copy -/
theorem copy_ok (h : Bs w v xs) (hl : xs.length ≤ 1000000000000) (hK : ∀ w' b v', Sl u1 1 w' 5 (some b) v' xs → w.heap.size ≤ b → Kp (fun _ => False) w w' → K v' w') : cl Try.prog 11 #[v] K w := by
  apply c11
  unfold s11_p4
  refine Sl.empty (f := u1) (k := 1) fun w1 s1 hk1 hz1 => ?_
  refine (h.kp' hk1).ln ?_
  unfold s11_p3
  refine ⟨fun n l w' => ∃ (i b : Nat) (t3 : Value), n + i = xs.length ∧ l = [t3, v, I xs.length, I (i : Nat)] ∧ Sl u1 1 w' 5 (some b) t3 (xs.take i) ∧ w.heap.size ≤ b ∧ Kp (fun _ => False) w w', xs.length, ⟨0, w.heap.size, _, rfl, rfl, s1, Nat.le_refl _, hk1⟩, ?_⟩
  rintro n l w2 ⟨i, b, t3, hn, rfl, s2, hb, hk2⟩
  rw [s11_p3_Fe]
  unfold s11_p2
  try simp only [e_fd, e_nck, e_pkt, e_pkf, e_gdtt, e_gdtf, e_gdft, e_gdff, e_ift, e_iff, e_not, e_ln, e_lnT, e_cp, e_cvi, e_ex20, e_ex21, e_ex30, e_ex31, e_ex32, e_add, e_sub, e_mul, e_quo, e_rem, e_and, e_or, e_xor, e_shl, e_shr, e_eql, e_neq, e_lss, e_leq, e_gtr, e_geq, e_beq, e_bne, e_peq1, e_peq2, e_pne1, e_pne2, e_zeq1, e_zeq2, e_zne1, e_zne2, e_feq1, e_fne1, e_feq2, e_fne2, e_seq, e_sne, e_ta1, e_ta2, Nat.zero_add, Nat.add_zero, Bool.not_true, Bool.not_false]
  by_cases hi : i < xs.length
  · have hi' : ((i : Nat) : Int) < ((xs.length : Nat) : Int) := by omega
    simp only [hi', decide_true, e_fd, e_nck, e_pkt, e_pkf, e_gdtt, e_gdtf, e_gdft, e_gdff, e_ift, e_iff, e_not, e_ln, e_lnT, e_cp, e_cvi, e_ex20, e_ex21, e_ex30, e_ex31, e_ex32, e_add, e_sub, e_mul, e_quo, e_rem, e_and, e_or, e_xor, e_shl, e_shr, e_eql, e_neq, e_lss, e_leq, e_gtr, e_geq, e_beq, e_bne, e_peq1, e_peq2, e_pne1, e_pne2, e_zeq1, e_zeq2, e_zne1, e_zne2, e_feq1, e_fne1, e_feq2, e_fne2, e_seq, e_sne, e_ta1, e_ta2, Nat.zero_add, Nat.add_zero, Bool.not_true, Bool.not_false]
    refine (h.kp' hk2).ix hi fun b' q' hld => hld _ ?_
    refine app_o1 s2 (by rw [List.length_take]; omega) fun w3 t' ob' s3 hk3 ho3 => ?_
    try simp only [e_fd, e_nck, e_pkt, e_pkf, e_gdtt, e_gdtf, e_gdft, e_gdff, e_ift, e_iff, e_not, e_ln, e_lnT, e_cp, e_cvi, e_ex20, e_ex21, e_ex30, e_ex31, e_ex32, e_add, e_sub, e_mul, e_quo, e_rem, e_and, e_or, e_xor, e_shl, e_shr, e_eql, e_neq, e_lss, e_leq, e_gtr, e_geq, e_beq, e_bne, e_peq1, e_peq2, e_pne1, e_pne2, e_zeq1, e_zeq2, e_zne1, e_zne2, e_feq1, e_fne1, e_feq2, e_fne2, e_seq, e_sne, e_ta1, e_ta2, Nat.zero_add, Nat.add_zero, Bool.not_true, Bool.not_false]
    rw [wrap64_id (by omega) (by omega)]
    rw [← List.take_succ_eq_append_getElem hi] at s3
    have sz := hk2.size
    have k3 : Kp (fun _ => False) w w3 := hk2.then hk3 (fun k hk (q : some _ = some k) => by cases q; omega)
    rcases ho3 with rfl | ⟨b3, rfl, hb3⟩
    · exact ⟨n - 1, by omega, i + 1, b, t', by omega, by simp, s3, hb, k3⟩
    · exact ⟨n - 1, by omega, i + 1, b3, t', by omega, by simp, s3, by omega, k3⟩
  · have hi' : ¬ ((i : Nat) : Int) < ((xs.length : Nat) : Int) := by omega
    simp only [hi', decide_false, e_fd, e_nck, e_pkt, e_pkf, e_gdtt, e_gdtf, e_gdft, e_gdff, e_ift, e_iff, e_not, e_ln, e_lnT, e_cp, e_cvi, e_ex20, e_ex21, e_ex30, e_ex31, e_ex32, e_add, e_sub, e_mul, e_quo, e_rem, e_and, e_or, e_xor, e_shl, e_shr, e_eql, e_neq, e_lss, e_leq, e_gtr, e_geq, e_beq, e_bne, e_peq1, e_peq2, e_pne1, e_pne2, e_zeq1, e_zeq2, e_zne1, e_zne2, e_feq1, e_fne1, e_feq2, e_fne2, e_seq, e_sne, e_ta1, e_ta2, Nat.zero_add, Nat.add_zero, Bool.not_true, Bool.not_false]
    unfold s11_p1
    rw [List.take_of_length_le (by omega)] at s2
    exact hK w2 b t3 s2 hb hk2
theorem tmod_twice {a d : Int} (hd : 0 < d) : (a.tmod d + d).tmod d = a % d := by
  have h1 := Int.tmod_eq_emod_of_nonneg (a := a.tmod d + d) (b := d) (by have := Int.lt_tmod_of_pos a hd; omega)
  rw [h1, Int.add_emod_right, Int.emod_eq_emod_iff_emod_sub_eq_zero]
  have := Int.mul_tdiv_add_tmod a d
  have e : a.tmod d - a = d * (-(a.tdiv d)) := by rw [Int.mul_neg]; omega
  rw [e, Int.mul_emod_right]
/-- a count within bounds -/
theorem count_ok {a : Int} (ha : -9223372036854775808 ≤ a ∧ a ≤ 9223372036854775807) (hn : n ≤ 1000000000000000) (hK : K (I (if n = 0 then 0 else a % n)) w) : cl Try.prog 61 #[I a, I (n : Nat)] K w := by
  apply c61
  unfold s61_p1
  try simp only [e_fd, e_nck, e_pkt, e_pkf, e_gdtt, e_gdtf, e_gdft, e_gdff, e_ift, e_iff, e_not, e_ln, e_lnT, e_cp, e_cvi, e_ex20, e_ex21, e_ex30, e_ex31, e_ex32, e_add, e_sub, e_mul, e_quo, e_rem, e_and, e_or, e_xor, e_shl, e_shr, e_eql, e_neq, e_lss, e_leq, e_gtr, e_geq, e_beq, e_bne, e_peq1, e_peq2, e_pne1, e_pne2, e_zeq1, e_zeq2, e_zne1, e_zne2, e_feq1, e_fne1, e_feq2, e_fne2, e_seq, e_sne, e_ta1, e_ta2, Nat.zero_add, Nat.add_zero, Bool.not_true, Bool.not_false]
  by_cases h0 : n = 0
  · subst h0
    simp only [show (((0 : Nat) : Int) == 0) = true from rfl, e_fd, e_nck, e_pkt, e_pkf, e_gdtt, e_gdtf, e_gdft, e_gdff, e_ift, e_iff, e_not, e_ln, e_lnT, e_cp, e_cvi, e_ex20, e_ex21, e_ex30, e_ex31, e_ex32, e_add, e_sub, e_mul, e_quo, e_rem, e_and, e_or, e_xor, e_shl, e_shr, e_eql, e_neq, e_lss, e_leq, e_gtr, e_geq, e_beq, e_bne, e_peq1, e_peq2, e_pne1, e_pne2, e_zeq1, e_zeq2, e_zne1, e_zne2, e_feq1, e_fne1, e_feq2, e_fne2, e_seq, e_sne, e_ta1, e_ta2, Nat.zero_add, Nat.add_zero, Bool.not_true, Bool.not_false]
    simpa using hK
  · have e : (((n : Nat) : Int) == 0) = false := by rw [beq_eq_false_iff_ne]; omega
    simp only [e, e_fd, e_nck, e_pkt, e_pkf, e_gdtt, e_gdtf, e_gdft, e_gdff, e_ift, e_iff, e_not, e_ln, e_lnT, e_cp, e_cvi, e_ex20, e_ex21, e_ex30, e_ex31, e_ex32, e_add, e_sub, e_mul, e_quo, e_rem, e_and, e_or, e_xor, e_shl, e_shr, e_eql, e_neq, e_lss, e_leq, e_gtr, e_geq, e_beq, e_bne, e_peq1, e_peq2, e_pne1, e_pne2, e_zeq1, e_zeq2, e_zne1, e_zne2, e_feq1, e_fne1, e_feq2, e_fne2, e_seq, e_sne, e_ta1, e_ta2, Nat.zero_add, Nat.add_zero, Bool.not_true, Bool.not_false]
    have hp : (0 : Int) < ((n : Nat) : Int) := by omega
    have b1 := Int.lt_tmod_of_pos a hp
    have b2 := Int.tmod_lt_of_pos a hp
    refine ⟨by omega, ?_⟩
    rw [if_neg h0] at hK
    have b3 := Int.emod_nonneg a (b := ((n : Nat) : Int)) (by omega)
    have b4 := Int.emod_lt_of_pos a hp
    rw [wrap64_id (n := a.tmod n + n) (by omega) (by omega)]
    refine ⟨by omega, ?_⟩
    rw [tmod_twice hp]
    exact hK
end
end Go.Proofs.Qxb6500898a
