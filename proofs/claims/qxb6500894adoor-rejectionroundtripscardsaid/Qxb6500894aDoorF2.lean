import Derived.Test.Qxb6500894aDoorF1
namespace Go.Proofs.Qxb6500894aDoor
open Go.Sh Go.RowKit
set_option linter.unusedVariables false
set_option linter.unusedSimpArgs false

/-- the sign goes into the last bit -/
def zz (x : Int) : Nat := if 0 ≤ x then (2 * x).toNat else (-2 * x - 1).toNat
theorem zz_lt {x : Int} (h0 : -9223372036854775808 ≤ x) (h1 : x ≤ 9223372036854775807) : zz x < 18446744073709551616 := by unfold zz; split <;> omega
theorem not64 {n : Nat} (hn : n < 18446744073709551616) : IntKind.u64.wrap (BitVec.ofInt IntKind.u64.bits (if IntKind.u64.signed then -1 else IntKind.u64.max) ^^^ BitVec.ofInt IntKind.u64.bits ((n : Nat) : Int)).toNat = ((18446744073709551615 - n : Nat) : Int) := by
  have e1 : (if IntKind.u64.signed then (-1 : Int) else IntKind.u64.max) = ((18446744073709551615 : Nat) : Int) := by decide
  have e2 : IntKind.u64.bits = 64 := rfl
  rw [e1, e2]
  have e3 : BitVec.ofInt 64 ((18446744073709551615 : Nat) : Int) = BitVec.allOnes 64 := by decide
  rw [e3, BitVec.allOnes_xor, BitVec.toNat_not, of_q (by omega), wrapu64]
  omega
section
variable {W w w' : World} {v t0 : Value} {ob : Option Nat} {xs ys rest : List Int} {K : Value → World → Prop} {B1 : List Value → World → Prop} {f i : Nat}
theorem appV_ok {x : Int} (h0 : -9223372036854775808 ≤ x) (h1 : x ≤ 9223372036854775807) (h : Sl u1 1 w 5 ob v ys) (hl : ys.length ≤ 1000000000) (hK : AppK w ob (ys ++ uv (zz x)) K) : cl Tryd.prog 75 #[v, I x] K w := by
  have hz := zz_lt h0 h1
  apply c75
  unfold s75_p2
  try simp only [e_fd, e_nck, e_pkt, e_pkf, e_gdtt, e_gdtf, e_gdft, e_gdff, e_ift, e_iff, e_not, e_ln, e_lnT, e_cp, e_cvi, e_ex20, e_ex21, e_ex30, e_ex31, e_ex32, e_add, e_sub, e_mul, e_quo, e_rem, e_and, e_or, e_xor, e_shl, e_shr, e_eql, e_neq, e_lss, e_leq, e_gtr, e_geq, e_beq, e_bne, e_peq1, e_peq2, e_pne1, e_pne2, e_zeq1, e_zeq2, e_zne1, e_zne2, e_feq1, e_fne1, e_feq2, e_fne2, e_seq, e_sne, e_ta1, e_ta2, Nat.zero_add, Nat.add_zero, Bool.not_true, Bool.not_false]
  refine ⟨by decide, ?_⟩
  have e1 : (2 ^ (min ((1 : Int)).toNat IntKind.u64.bits) : Int) = 2 := by decide
  rw [e1, wrapu64, wrapu64]
  by_cases hx : x < 0
  · simp only [hx, decide_true, e_fd, e_nck, e_pkt, e_pkf, e_gdtt, e_gdtf, e_gdft, e_gdff, e_ift, e_iff, e_not, e_ln, e_lnT, e_cp, e_cvi, e_ex20, e_ex21, e_ex30, e_ex31, e_ex32, e_add, e_sub, e_mul, e_quo, e_rem, e_and, e_or, e_xor, e_shl, e_shr, e_eql, e_neq, e_lss, e_leq, e_gtr, e_geq, e_beq, e_bne, e_peq1, e_peq2, e_pne1, e_pne2, e_zeq1, e_zeq2, e_zne1, e_zne2, e_feq1, e_fne1, e_feq2, e_fne2, e_seq, e_sne, e_ta1, e_ta2, Nat.zero_add, Nat.add_zero, Bool.not_true, Bool.not_false]
    have e2 : x % 18446744073709551616 * 2 % 18446744073709551616 = ((18446744073709551615 - zz x : Nat) : Int) := by unfold zz; rw [if_neg (by omega)]; omega
    rw [e2]
    show s75_p1 K v (.int .u64 (IntKind.u64.wrap (BitVec.ofInt IntKind.u64.bits (if IntKind.u64.signed then -1 else IntKind.u64.max) ^^^ BitVec.ofInt IntKind.u64.bits ((18446744073709551615 - zz x : Nat) : Int)).toNat)) w
    rw [not64 (by omega), show 18446744073709551615 - (18446744073709551615 - zz x) = zz x by omega]
    unfold s75_p1
    exact appU_ok h hl hz hK
  · simp only [hx, decide_false, e_fd, e_nck, e_pkt, e_pkf, e_gdtt, e_gdtf, e_gdft, e_gdff, e_ift, e_iff, e_not, e_ln, e_lnT, e_cp, e_cvi, e_ex20, e_ex21, e_ex30, e_ex31, e_ex32, e_add, e_sub, e_mul, e_quo, e_rem, e_and, e_or, e_xor, e_shl, e_shr, e_eql, e_neq, e_lss, e_leq, e_gtr, e_geq, e_beq, e_bne, e_peq1, e_peq2, e_pne1, e_pne2, e_zeq1, e_zeq2, e_zne1, e_zne2, e_feq1, e_fne1, e_feq2, e_fne2, e_seq, e_sne, e_ta1, e_ta2, Nat.zero_add, Nat.add_zero, Bool.not_true, Bool.not_false]
    have e2 : x % 18446744073709551616 * 2 % 18446744073709551616 = ((zz x : Nat) : Int) := by unfold zz; rw [if_pos (by omega)]; omega
    rw [e2]
    unfold s75_p1
    exact appU_ok h hl hz hK
theorem pow7 (i : Nat) : (2 : Nat) ^ (7 * i) = 128 ^ i := by rw [Nat.pow_mul]
theorem shl7 {q : Nat} (hi : i ≤ 9) (hq : q * 128 ^ i < 18446744073709551616) : IntKind.u64.wrap (((q : Nat) : Int) * 2 ^ (min (((7 * i : Nat) : Int)).toNat IntKind.u64.bits)) = ((q * 128 ^ i : Nat) : Int) := by
  have e : min (((7 * i : Nat) : Int)).toNat IntKind.u64.bits = 7 * i := by
    have : IntKind.u64.bits = 64 := rfl
    rw [this]; omega
  rw [e, wrapu64]
  have e2 : ((q : Nat) : Int) * 2 ^ (7 * i) = ((q * 128 ^ i : Nat) : Int) := by
    rw [← pow7, Int.natCast_mul, Int.natCast_pow]; rfl
  rw [e2]
  exact Int.emod_eq_of_lt (by omega) (by omega)
theorem or7 {a q : Nat} (ha : a < 128 ^ i) (hs : a + q * 128 ^ i < 18446744073709551616) : IntKind.u64.wrap (BitVec.ofInt IntKind.u64.bits ((a : Nat) : Int) ||| BitVec.ofInt IntKind.u64.bits ((q * 128 ^ i : Nat) : Int)).toNat = ((a + q * 128 ^ i : Nat) : Int) := by
  have e2 : IntKind.u64.bits = 64 := rfl
  rw [e2, BitVec.or_comm, BitVec.toNat_or, of_q (by omega), of_q (by omega)]
  rw [← pow7] at ha hs ⊢
  rw [or_nat (i := 7 * i) (Nat.mul_mod_left _ _) ha, wrapu64]
  omega
theorem p9 : (128 : Nat) ^ 9 = 9223372036854775808 := by decide
/-- reading a number -/
theorem uvarint_ok {x : Nat} (hx : x < 18446744073709551616) (h : Vs U8 w v (uv x ++ rest)) (hrl : rest.length ≤ 1000000000) (hK : K (.tuple #[.int .u64 (x : Nat), I ((uv x).length : Nat)]) w) : cl Tryd.prog 83 #[v] K w := by
  have hul : (uv x).length ≤ 10 := uvF_len
  have hll : (uv x ++ rest).length = (uv x).length + rest.length := List.length_append
  apply c83
  unfold s83_p4
  refine h.ln ?_
  unfold s83_p3
  refine ⟨fun n l w' => w' = w ∧ ∃ i : Nat, n + i = 10 ∧ i ≤ 9 ∧ l = [.int .u64 ((x % 128 ^ i : Nat) : Int), .int .u64 ((7 * i : Nat) : Int), v, I ((uv x ++ rest).length : Nat), I (i : Nat)] ∧ (uv x ++ rest).drop i = uvF (10 - i) (x / 128 ^ i) ++ rest ∧ i + (uvF (10 - i) (x / 128 ^ i)).length = (uv x).length,
    10, ⟨rfl, 0, rfl, by decide, by rw [Nat.pow_zero, Nat.mod_one]; rfl, by rw [Nat.pow_zero, Nat.div_one]; rfl, by rw [Nat.pow_zero, Nat.div_one, Nat.zero_add]; rfl⟩, ?_⟩
  rintro n l w1 ⟨rfl, i, hn, hi9, rfl, hd, hlen⟩
  obtain ⟨f, hf⟩ : ∃ f, 10 - i = f + 1 := ⟨9 - i, by omega⟩
  rw [hf] at hd hlen
  have hpos := uvF_pos (f := f) (x := x / 128 ^ i)
  have hP : 0 < 128 ^ i := Nat.pow_pos (by decide)
  have hil : i < (uv x ++ rest).length := by omega
  have hdm := Nat.mod_add_div x (128 ^ i)
  have hml := Nat.mod_lt x hP
  have hq9 : i = 9 → x / 128 ^ i ≤ 1 := fun e => by
    subst e; rw [p9]
    have : x / 9223372036854775808 < 2 := Nat.div_lt_of_lt_mul (by omega)
    omega
  have hle : x / 128 ^ i * 128 ^ i ≤ x := Nat.div_mul_le_self _ _
  rw [Nat.mul_comm] at hdm
  rw [s83_p3_Fe]
  unfold s83_p2
  try simp only [e_fd, e_nck, e_pkt, e_pkf, e_gdtt, e_gdtf, e_gdft, e_gdff, e_ift, e_iff, e_not, e_ln, e_lnT, e_cp, e_cvi, e_ex20, e_ex21, e_ex30, e_ex31, e_ex32, e_add, e_sub, e_mul, e_quo, e_rem, e_and, e_or, e_xor, e_shl, e_shr, e_eql, e_neq, e_lss, e_leq, e_gtr, e_geq, e_beq, e_bne, e_peq1, e_peq2, e_pne1, e_pne2, e_zeq1, e_zeq2, e_zne1, e_zne2, e_feq1, e_fne1, e_feq2, e_fne2, e_seq, e_sne, e_ta1, e_ta2, Nat.zero_add, Nat.add_zero, Bool.not_true, Bool.not_false]
  have hi' : ((i : Nat) : Int) < (((uv x ++ rest).length : Nat) : Int) := by omega
  simp only [hi', decide_true, e_fd, e_nck, e_pkt, e_pkf, e_gdtt, e_gdtf, e_gdft, e_gdff, e_ift, e_iff, e_not, e_ln, e_lnT, e_cp, e_cvi, e_ex20, e_ex21, e_ex30, e_ex31, e_ex32, e_add, e_sub, e_mul, e_quo, e_rem, e_and, e_or, e_xor, e_shl, e_shr, e_eql, e_neq, e_lss, e_leq, e_gtr, e_geq, e_beq, e_bne, e_peq1, e_peq2, e_pne1, e_pne2, e_zeq1, e_zeq2, e_zne1, e_zne2, e_feq1, e_fne1, e_feq2, e_fne2, e_seq, e_sne, e_ta1, e_ta2, Nat.zero_add, Nat.add_zero, Bool.not_true, Bool.not_false]
  refine h.ix (i := i) hil fun b' q' hld => hld _ ?_
  have hget : (uv x ++ rest)[i] = (if x / 128 ^ i < 128 then ((x / 128 ^ i : Nat) : Int) else ((x / 128 ^ i % 128 + 128 : Nat) : Int)) := by
    have h1 : ((uv x ++ rest).drop i)[0]? = some (uv x ++ rest)[i] := by rw [List.getElem?_drop, Nat.add_zero, List.getElem?_eq_getElem hil]
    rw [hd] at h1
    by_cases q : x / 128 ^ i < 128
    · rw [uvF_small q] at h1
      rw [if_pos q]
      exact (Option.some.inj h1).symm
    · rw [uvF_big q] at h1
      rw [if_neg q]
      exact (Option.some.inj h1).symm
  rw [hget]
  have e10 : (((i : Nat) : Int) == 10) = false := by rw [beq_eq_false_iff_ne]; omega
  simp only [e10, e_fd, e_nck, e_pkt, e_pkf, e_gdtt, e_gdtf, e_gdft, e_gdff, e_ift, e_iff, e_not, e_ln, e_lnT, e_cp, e_cvi, e_ex20, e_ex21, e_ex30, e_ex31, e_ex32, e_add, e_sub, e_mul, e_quo, e_rem, e_and, e_or, e_xor, e_shl, e_shr, e_eql, e_neq, e_lss, e_leq, e_gtr, e_geq, e_beq, e_bne, e_peq1, e_peq2, e_pne1, e_pne2, e_zeq1, e_zeq2, e_zne1, e_zne2, e_feq1, e_fne1, e_feq2, e_fne2, e_seq, e_sne, e_ta1, e_ta2, Nat.zero_add, Nat.add_zero, Bool.not_true, Bool.not_false]
  by_cases hq : x / 128 ^ i < 128
  · rw [if_pos hq]
    have hq' : ((x / 128 ^ i : Nat) : Int) < 128 := by omega
    simp only [hq', decide_true, e_fd, e_nck, e_pkt, e_pkf, e_gdtt, e_gdtf, e_gdft, e_gdff, e_ift, e_iff, e_not, e_ln, e_lnT, e_cp, e_cvi, e_ex20, e_ex21, e_ex30, e_ex31, e_ex32, e_add, e_sub, e_mul, e_quo, e_rem, e_and, e_or, e_xor, e_shl, e_shr, e_eql, e_neq, e_lss, e_leq, e_gtr, e_geq, e_beq, e_bne, e_peq1, e_peq2, e_pne1, e_pne2, e_zeq1, e_zeq2, e_zne1, e_zne2, e_feq1, e_fne1, e_feq2, e_fne2, e_seq, e_sne, e_ta1, e_ta2, Nat.zero_add, Nat.add_zero, Bool.not_true, Bool.not_false]
    have fin : K (.tuple #[.int .u64 (IntKind.u64.wrap (BitVec.ofInt IntKind.u64.bits ((x % 128 ^ i : Nat) : Int) ||| BitVec.ofInt IntKind.u64.bits (IntKind.u64.wrap (IntKind.u64.wrap ((x / 128 ^ i : Nat) : Int) * 2 ^ (min (((7 * i : Nat) : Int)).toNat IntKind.u64.bits)))).toNat), .int .i64 (IntKind.i64.wrap (((i : Nat) : Int) + 1))]) w1 := by
      rw [wrapu64 ((x / 128 ^ i : Nat) : Int), Int.emod_eq_of_lt (Int.natCast_nonneg _) (by omega), shl7 hi9 (by omega), or7 hml (by omega), hdm, wrap64_id (by omega) (by omega)]
      rw [uvF_small hq, List.length_singleton] at hlen
      rw [show ((i : Nat) : Int) + 1 = (((uv x).length : Nat) : Int) by omega]
      exact hK
    by_cases h9 : i = 9
    · have e9 : (((i : Nat) : Int) == 9) = true := by rw [beq_iff_eq]; omega
      have hg : ¬ (1 : Int) < ((x / 128 ^ i : Nat) : Int) := by have := hq9 h9; omega
      simp only [e9, hg, decide_false, e_fd, e_nck, e_pkt, e_pkf, e_gdtt, e_gdtf, e_gdft, e_gdff, e_ift, e_iff, e_not, e_ln, e_lnT, e_cp, e_cvi, e_ex20, e_ex21, e_ex30, e_ex31, e_ex32, e_add, e_sub, e_mul, e_quo, e_rem, e_and, e_or, e_xor, e_shl, e_shr, e_eql, e_neq, e_lss, e_leq, e_gtr, e_geq, e_beq, e_bne, e_peq1, e_peq2, e_pne1, e_pne2, e_zeq1, e_zeq2, e_zne1, e_zne2, e_feq1, e_fne1, e_feq2, e_fne2, e_seq, e_sne, e_ta1, e_ta2, Nat.zero_add, Nat.add_zero, Bool.not_true, Bool.not_false]
      exact ⟨by omega, fin⟩
    · have e9 : (((i : Nat) : Int) == 9) = false := by rw [beq_eq_false_iff_ne]; omega
      simp only [e9, e_fd, e_nck, e_pkt, e_pkf, e_gdtt, e_gdtf, e_gdft, e_gdff, e_ift, e_iff, e_not, e_ln, e_lnT, e_cp, e_cvi, e_ex20, e_ex21, e_ex30, e_ex31, e_ex32, e_add, e_sub, e_mul, e_quo, e_rem, e_and, e_or, e_xor, e_shl, e_shr, e_eql, e_neq, e_lss, e_leq, e_gtr, e_geq, e_beq, e_bne, e_peq1, e_peq2, e_pne1, e_pne2, e_zeq1, e_zeq2, e_zne1, e_zne2, e_feq1, e_fne1, e_feq2, e_fne2, e_seq, e_sne, e_ta1, e_ta2, Nat.zero_add, Nat.add_zero, Bool.not_true, Bool.not_false]
      exact ⟨by omega, fin⟩
  · rw [if_neg hq]
    have hq' : ¬ ((x / 128 ^ i % 128 + 128 : Nat) : Int) < 128 := by omega
    simp only [hq', decide_false, e_fd, e_nck, e_pkt, e_pkf, e_gdtt, e_gdtf, e_gdft, e_gdff, e_ift, e_iff, e_not, e_ln, e_lnT, e_cp, e_cvi, e_ex20, e_ex21, e_ex30, e_ex31, e_ex32, e_add, e_sub, e_mul, e_quo, e_rem, e_and, e_or, e_xor, e_shl, e_shr, e_eql, e_neq, e_lss, e_leq, e_gtr, e_geq, e_beq, e_bne, e_peq1, e_peq2, e_pne1, e_pne2, e_zeq1, e_zeq2, e_zne1, e_zne2, e_feq1, e_fne1, e_feq2, e_fne2, e_seq, e_sne, e_ta1, e_ta2, Nat.zero_add, Nat.add_zero, Bool.not_true, Bool.not_false]
    have hi8 : i ≤ 8 := by
      rcases Nat.lt_or_ge i 9 with q | q
      · omega
      · have := hq9 (by omega); omega
    have hm1 : x / 128 ^ i % 128 * 128 ^ i ≤ x / 128 ^ i * 128 ^ i := Nat.mul_le_mul_right _ (Nat.mod_le _ _)
    have hmm : x % 128 ^ i + x / 128 ^ i % 128 * 128 ^ i = x % 128 ^ (i + 1) := by
      rw [Nat.pow_succ, Nat.mod_mul, Nat.mul_comm (128 ^ i)]
    rw [and127 (by omega), show (x / 128 ^ i % 128 + 128) % 128 = x / 128 ^ i % 128 by omega, wrapu64 ((x / 128 ^ i % 128 : Nat) : Int), Int.emod_eq_of_lt (by omega) (by omega)]
    refine ⟨by omega, ?_⟩
    rw [shl7 hi9 (by omega), or7 hml (by omega), hmm, wrapu64, wrap64_id (by omega) (by omega)]
    have e7 : (((7 * i : Nat) : Int) + 7) % 18446744073709551616 = ((7 * (i + 1) : Nat) : Int) := by omega
    rw [e7]
    obtain ⟨f', rfl⟩ : ∃ f', f = f' + 1 := ⟨f - 1, by omega⟩
    rw [uvF_big hq] at hd hlen
    have edd : x / 128 ^ i / 128 = x / 128 ^ (i + 1) := by rw [Nat.div_div_eq_div_mul, Nat.pow_succ]
    rw [edd] at hd hlen
    have ef : 10 - (i + 1) = f' + 1 := by omega
    refine ⟨n - 1, by omega, trivial, i + 1, by omega, by omega, by simp, ?_, ?_⟩
    · rw [ef, ← List.drop_drop, hd]; rfl
    · rw [ef]; rw [List.length_cons] at hlen; omega
end
end Go.Proofs.Qxb6500894aDoor
