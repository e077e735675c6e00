import Derived.Test.Qxb6500898aV1
namespace Go.Proofs.Qxb6500898a
open Go.Sh Go.RowKit
set_option linter.unusedVariables false
set_option linter.unusedSimpArgs false

/-! ### numbers of any unsigned kind -/
theorem wrapu64 (n : Int) : IntKind.u64.wrap n = n % 18446744073709551616 := by
  have e : (2 ^ IntKind.u64.bits : Int) = 18446744073709551616 := by decide
  unfold IntKind.wrap
  rw [e]
  simp [IntKind.signed]
theorem of_q {k n : Nat} (hn : n < 2 ^ k) : (BitVec.ofInt k (n : Int)).toNat = n := by
  rw [BitVec.ofInt_natCast, BitVec.toNat_ofNat, Nat.mod_eq_of_lt hn]
theorem or_nat {i A B : Nat} (hd : A % 2 ^ i = 0) (hB : B < 2 ^ i) : A ||| B = A + B := by
  have : A = 2 ^ i * (A / 2 ^ i) := by
    have := Nat.div_add_mod A (2 ^ i)
    rw [hd, Nat.add_zero] at this
    exact this.symm
  rw [this, Nat.two_pow_add_eq_or_of_lt hB]
theorem or_bv {k i : Nat} {A B M : Int} (hM : ((2 ^ i : Nat) : Int) = M) (hA : 0 ≤ A) (hd : A % M = 0) (hB : 0 ≤ B) (hBM : B < M) (hs : A + B < ((2 ^ k : Nat) : Int)) :
    (((BitVec.ofInt k A ||| BitVec.ofInt k B).toNat : Nat) : Int) = A + B := by
  obtain ⟨a, rfl⟩ : ∃ a : Nat, A = (a : Int) := ⟨A.toNat, by omega⟩
  obtain ⟨b, rfl⟩ : ∃ b : Nat, B = (b : Int) := ⟨B.toNat, by omega⟩
  have hm : a % 2 ^ i = 0 := by
    rw [← hM] at hd
    omega
  rw [BitVec.toNat_or, of_q (by omega), of_q (by omega), or_nat hm (by omega)]
  omega
theorem pwu16 : ((2 ^ IntKind.u16.bits : Nat) : Int) = 65536 := by decide
theorem pwu32 : ((2 ^ IntKind.u32.bits : Nat) : Int) = 4294967296 := by decide
theorem pwu64 : ((2 ^ IntKind.u64.bits : Nat) : Int) = 18446744073709551616 := by decide
theorem or16 (i : Nat) {A B M : Int} (hM : ((2 ^ i : Nat) : Int) = M) (hA : 0 ≤ A) (hd : A % M = 0) (hB : 0 ≤ B) (hBM : B < M) (hs : A + B < 65536) :
    IntKind.u16.wrap (BitVec.ofInt IntKind.u16.bits A ||| BitVec.ofInt IntKind.u16.bits B).toNat = A + B := by
  rw [or_bv (k := IntKind.u16.bits) hM hA hd hB hBM (by rw [pwu16]; exact hs), wrapu16]; omega
theorem or16' (i : Nat) {A B M : Int} (hM : ((2 ^ i : Nat) : Int) = M) (hA : 0 ≤ A) (hd : A % M = 0) (hB : 0 ≤ B) (hBM : B < M) (hs : A + B < 65536) :
    IntKind.u16.wrap (BitVec.ofInt IntKind.u16.bits B ||| BitVec.ofInt IntKind.u16.bits A).toNat = A + B := by
  rw [BitVec.or_comm]; exact or16 i hM hA hd hB hBM hs
theorem or32 (i : Nat) {A B M : Int} (hM : ((2 ^ i : Nat) : Int) = M) (hA : 0 ≤ A) (hd : A % M = 0) (hB : 0 ≤ B) (hBM : B < M) (hs : A + B < 4294967296) :
    IntKind.u32.wrap (BitVec.ofInt IntKind.u32.bits A ||| BitVec.ofInt IntKind.u32.bits B).toNat = A + B := by
  rw [or_bv (k := IntKind.u32.bits) hM hA hd hB hBM (by rw [pwu32]; exact hs), wrapu32]; omega
theorem or32' (i : Nat) {A B M : Int} (hM : ((2 ^ i : Nat) : Int) = M) (hA : 0 ≤ A) (hd : A % M = 0) (hB : 0 ≤ B) (hBM : B < M) (hs : A + B < 4294967296) :
    IntKind.u32.wrap (BitVec.ofInt IntKind.u32.bits B ||| BitVec.ofInt IntKind.u32.bits A).toNat = A + B := by
  rw [BitVec.or_comm]; exact or32 i hM hA hd hB hBM hs
theorem or64 (i : Nat) {A B M : Int} (hM : ((2 ^ i : Nat) : Int) = M) (hA : 0 ≤ A) (hd : A % M = 0) (hB : 0 ≤ B) (hBM : B < M) (hs : A + B < 18446744073709551616) :
    IntKind.u64.wrap (BitVec.ofInt IntKind.u64.bits A ||| BitVec.ofInt IntKind.u64.bits B).toNat = A + B := by
  rw [or_bv (k := IntKind.u64.bits) hM hA hd hB hBM (by rw [pwu64]; exact hs), wrapu64]; omega
theorem or64' (i : Nat) {A B M : Int} (hM : ((2 ^ i : Nat) : Int) = M) (hA : 0 ≤ A) (hd : A % M = 0) (hB : 0 ≤ B) (hBM : B < M) (hs : A + B < 18446744073709551616) :
    IntKind.u64.wrap (BitVec.ofInt IntKind.u64.bits B ||| BitVec.ofInt IntKind.u64.bits A).toNat = A + B := by
  rw [BitVec.or_comm]; exact or64 i hM hA hd hB hBM hs
theorem p16_8 : (2 ^ (min ((8 : Int)).toNat IntKind.u16.bits) : Int) = 256 := by decide
theorem p32_8 : (2 ^ (min ((8 : Int)).toNat IntKind.u32.bits) : Int) = 256 := by decide
theorem p32_16 : (2 ^ (min ((16 : Int)).toNat IntKind.u32.bits) : Int) = 65536 := by decide
theorem p32_24 : (2 ^ (min ((24 : Int)).toNat IntKind.u32.bits) : Int) = 16777216 := by decide
theorem p64_8 : (2 ^ (min ((8 : Int)).toNat IntKind.u64.bits) : Int) = 256 := by decide
theorem p64_16 : (2 ^ (min ((16 : Int)).toNat IntKind.u64.bits) : Int) = 65536 := by decide
theorem p64_24 : (2 ^ (min ((24 : Int)).toNat IntKind.u64.bits) : Int) = 16777216 := by decide
theorem p64_32 : (2 ^ (min ((32 : Int)).toNat IntKind.u64.bits) : Int) = 4294967296 := by decide
theorem p64_40 : (2 ^ (min ((40 : Int)).toNat IntKind.u64.bits) : Int) = 1099511627776 := by decide
theorem p64_48 : (2 ^ (min ((48 : Int)).toNat IntKind.u64.bits) : Int) = 281474976710656 := by decide
theorem p64_56 : (2 ^ (min ((56 : Int)).toNat IntKind.u64.bits) : Int) = 72057594037927936 := by decide

def By (xs : List Int) : Prop := ∀ x ∈ xs, 0 ≤ x ∧ x ≤ 255
def be2 (xs : List Int) : Int := g xs 0 * 256 + g xs 1
def be4 (xs : List Int) : Int := g xs 0 * 16777216 + g xs 1 * 65536 + g xs 2 * 256 + g xs 3
def be8 (xs : List Int) : Int := g xs 0 * 72057594037927936 + g xs 1 * 281474976710656 + g xs 2 * 1099511627776 + g xs 3 * 4294967296 + g xs 4 * 16777216 + g xs 5 * 65536 + g xs 6 * 256 + g xs 7
def le2n (xs : List Int) : Int := g xs 1 * 256 + g xs 0
def le4 (xs : List Int) : Int := g xs 3 * 16777216 + g xs 2 * 65536 + g xs 1 * 256 + g xs 0
def le8 (xs : List Int) : Int := g xs 7 * 72057594037927936 + g xs 6 * 281474976710656 + g xs 5 * 1099511627776 + g xs 4 * 4294967296 + g xs 3 * 16777216 + g xs 2 * 65536 + g xs 1 * 256 + g xs 0

section
variable {w w' : World} {v : Value} {xs : List Int} {K : Value → World → Prop}
theorem BE16_ok (h : Bs w v xs) (hl : 2 ≤ xs.length) (hK : ∀ w', Kp (fun _ => False) w w' → K (.int .u16 (be2 xs)) w') : cl Try.prog 74 #[v] K w := by
  have b0 := h.gb 0
  have b1 := h.gb 1
  apply c74
  unfold s74_p3
  refine h.ixg 1 rfl (by omega) fun b q hld => hld _ ?_
  unfold s74_p2 s74_p2_d
  have hk : Kp (fun _ => False) w (drw w) := kp_drw
  have h := h.kp' hk
  generalize drw w = w1 at hk h ⊢
  refine h.ixg 0 rfl (by omega) fun b q hld => hld _ ?_
  try simp only [e_fd, e_nck, e_pkt, e_pkf, e_gdtt, e_gdtf, e_gdft, e_gdff, e_ift, e_iff, e_not, e_ln, e_lnT, e_cp, e_cvi, e_ex20, e_ex21, e_ex30, e_ex31, e_ex32, e_add, e_sub, e_mul, e_quo, e_rem, e_and, e_or, e_xor, e_shl, e_shr, e_eql, e_neq, e_lss, e_leq, e_gtr, e_geq, e_beq, e_bne, e_peq1, e_peq2, e_pne1, e_pne2, e_zeq1, e_zeq2, e_zne1, e_zne2, e_feq1, e_fne1, e_feq2, e_fne2, e_seq, e_sne, e_ta1, e_ta2, Nat.zero_add, Nat.add_zero, Bool.not_true, Bool.not_false]
  refine ⟨by decide, ?_⟩
  refine h.ixg 1 rfl (by omega) fun b q hld => hld _ ?_
  try simp only [e_fd, e_nck, e_pkt, e_pkf, e_gdtt, e_gdtf, e_gdft, e_gdff, e_ift, e_iff, e_not, e_ln, e_lnT, e_cp, e_cvi, e_ex20, e_ex21, e_ex30, e_ex31, e_ex32, e_add, e_sub, e_mul, e_quo, e_rem, e_and, e_or, e_xor, e_shl, e_shr, e_eql, e_neq, e_lss, e_leq, e_gtr, e_geq, e_beq, e_bne, e_peq1, e_peq2, e_pne1, e_pne2, e_zeq1, e_zeq2, e_zne1, e_zne2, e_feq1, e_fne1, e_feq2, e_fne2, e_seq, e_sne, e_ta1, e_ta2, Nat.zero_add, Nat.add_zero, Bool.not_true, Bool.not_false]
  rw [p16_8, wrapu16 (g xs 0), wrapu16 (g xs 1), wrapu16 (_ * 256), show g xs 0 % 65536 * 256 % 65536 = g xs 0 * 256 by omega, show g xs 1 % 65536 = g xs 1 by omega, or16 8 (A := g xs 0 * 256) (B := g xs 1) rfl (by omega) (by omega) (by omega) (by omega) (by omega)]
  exact hK w1 hk
theorem LE16_ok (h : Bs w v xs) (hl : 2 ≤ xs.length) (hK : ∀ w', Kp (fun _ => False) w w' → K (.int .u16 (le2n xs)) w') : cl Try.prog 73 #[v] K w := by
  have b0 := h.gb 0
  have b1 := h.gb 1
  apply c73
  unfold s73_p3
  refine h.ixg 1 rfl (by omega) fun b q hld => hld _ ?_
  unfold s73_p2 s73_p2_d
  have hk : Kp (fun _ => False) w (drw w) := kp_drw
  have h := h.kp' hk
  generalize drw w = w1 at hk h ⊢
  refine h.ixg 0 rfl (by omega) fun b q hld => hld _ ?_
  try simp only [e_fd, e_nck, e_pkt, e_pkf, e_gdtt, e_gdtf, e_gdft, e_gdff, e_ift, e_iff, e_not, e_ln, e_lnT, e_cp, e_cvi, e_ex20, e_ex21, e_ex30, e_ex31, e_ex32, e_add, e_sub, e_mul, e_quo, e_rem, e_and, e_or, e_xor, e_shl, e_shr, e_eql, e_neq, e_lss, e_leq, e_gtr, e_geq, e_beq, e_bne, e_peq1, e_peq2, e_pne1, e_pne2, e_zeq1, e_zeq2, e_zne1, e_zne2, e_feq1, e_fne1, e_feq2, e_fne2, e_seq, e_sne, e_ta1, e_ta2, Nat.zero_add, Nat.add_zero, Bool.not_true, Bool.not_false]
  refine h.ixg 1 rfl (by omega) fun b q hld => hld _ ?_
  try simp only [e_fd, e_nck, e_pkt, e_pkf, e_gdtt, e_gdtf, e_gdft, e_gdff, e_ift, e_iff, e_not, e_ln, e_lnT, e_cp, e_cvi, e_ex20, e_ex21, e_ex30, e_ex31, e_ex32, e_add, e_sub, e_mul, e_quo, e_rem, e_and, e_or, e_xor, e_shl, e_shr, e_eql, e_neq, e_lss, e_leq, e_gtr, e_geq, e_beq, e_bne, e_peq1, e_peq2, e_pne1, e_pne2, e_zeq1, e_zeq2, e_zne1, e_zne2, e_feq1, e_fne1, e_feq2, e_fne2, e_seq, e_sne, e_ta1, e_ta2, Nat.zero_add, Nat.add_zero, Bool.not_true, Bool.not_false]
  refine ⟨by decide, ?_⟩
  rw [p16_8, wrapu16 (g xs 0), wrapu16 (g xs 1), wrapu16 (_ * 256), show g xs 1 % 65536 * 256 % 65536 = g xs 1 * 256 by omega, show g xs 0 % 65536 = g xs 0 by omega, or16' 8 (A := g xs 1 * 256) (B := g xs 0) rfl (by omega) (by omega) (by omega) (by omega) (by omega)]
  exact hK w1 hk
theorem BE32_ok (h : Bs w v xs) (hl : 4 ≤ xs.length) (hK : ∀ w', Kp (fun _ => False) w w' → K (.int .u32 (be4 xs)) w') : cl Try.prog 68 #[v] K w := by
  have b0 := h.gb 0
  have b1 := h.gb 1
  have b2 := h.gb 2
  have b3 := h.gb 3
  apply c68
  unfold s68_p3
  refine h.ixg 3 rfl (by omega) fun b q hld => hld _ ?_
  unfold s68_p2 s68_p2_d
  have hk : Kp (fun _ => False) w (drw w) := kp_drw
  have h := h.kp' hk
  generalize drw w = w1 at hk h ⊢
  refine h.ixg 0 rfl (by omega) fun b q hld => hld _ ?_
  try simp only [e_fd, e_nck, e_pkt, e_pkf, e_gdtt, e_gdtf, e_gdft, e_gdff, e_ift, e_iff, e_not, e_ln, e_lnT, e_cp, e_cvi, e_ex20, e_ex21, e_ex30, e_ex31, e_ex32, e_add, e_sub, e_mul, e_quo, e_rem, e_and, e_or, e_xor, e_shl, e_shr, e_eql, e_neq, e_lss, e_leq, e_gtr, e_geq, e_beq, e_bne, e_peq1, e_peq2, e_pne1, e_pne2, e_zeq1, e_zeq2, e_zne1, e_zne2, e_feq1, e_fne1, e_feq2, e_fne2, e_seq, e_sne, e_ta1, e_ta2, Nat.zero_add, Nat.add_zero, Bool.not_true, Bool.not_false]
  refine ⟨by decide, ?_⟩
  refine h.ixg 1 rfl (by omega) fun b q hld => hld _ ?_
  try simp only [e_fd, e_nck, e_pkt, e_pkf, e_gdtt, e_gdtf, e_gdft, e_gdff, e_ift, e_iff, e_not, e_ln, e_lnT, e_cp, e_cvi, e_ex20, e_ex21, e_ex30, e_ex31, e_ex32, e_add, e_sub, e_mul, e_quo, e_rem, e_and, e_or, e_xor, e_shl, e_shr, e_eql, e_neq, e_lss, e_leq, e_gtr, e_geq, e_beq, e_bne, e_peq1, e_peq2, e_pne1, e_pne2, e_zeq1, e_zeq2, e_zne1, e_zne2, e_feq1, e_fne1, e_feq2, e_fne2, e_seq, e_sne, e_ta1, e_ta2, Nat.zero_add, Nat.add_zero, Bool.not_true, Bool.not_false]
  refine ⟨by decide, ?_⟩
  refine h.ixg 2 rfl (by omega) fun b q hld => hld _ ?_
  try simp only [e_fd, e_nck, e_pkt, e_pkf, e_gdtt, e_gdtf, e_gdft, e_gdff, e_ift, e_iff, e_not, e_ln, e_lnT, e_cp, e_cvi, e_ex20, e_ex21, e_ex30, e_ex31, e_ex32, e_add, e_sub, e_mul, e_quo, e_rem, e_and, e_or, e_xor, e_shl, e_shr, e_eql, e_neq, e_lss, e_leq, e_gtr, e_geq, e_beq, e_bne, e_peq1, e_peq2, e_pne1, e_pne2, e_zeq1, e_zeq2, e_zne1, e_zne2, e_feq1, e_fne1, e_feq2, e_fne2, e_seq, e_sne, e_ta1, e_ta2, Nat.zero_add, Nat.add_zero, Bool.not_true, Bool.not_false]
  refine ⟨by decide, ?_⟩
  refine h.ixg 3 rfl (by omega) fun b q hld => hld _ ?_
  try simp only [e_fd, e_nck, e_pkt, e_pkf, e_gdtt, e_gdtf, e_gdft, e_gdff, e_ift, e_iff, e_not, e_ln, e_lnT, e_cp, e_cvi, e_ex20, e_ex21, e_ex30, e_ex31, e_ex32, e_add, e_sub, e_mul, e_quo, e_rem, e_and, e_or, e_xor, e_shl, e_shr, e_eql, e_neq, e_lss, e_leq, e_gtr, e_geq, e_beq, e_bne, e_peq1, e_peq2, e_pne1, e_pne2, e_zeq1, e_zeq2, e_zne1, e_zne2, e_feq1, e_fne1, e_feq2, e_fne2, e_seq, e_sne, e_ta1, e_ta2, Nat.zero_add, Nat.add_zero, Bool.not_true, Bool.not_false]
  rw [p32_8, p32_16, p32_24, wrapu32 (g xs 0), wrapu32 (g xs 1), wrapu32 (g xs 2), wrapu32 (g xs 3), wrapu32 (_ * 16777216), wrapu32 (_ * 65536), wrapu32 (_ * 256),
    show g xs 0 % 4294967296 * 16777216 % 4294967296 = g xs 0 * 16777216 by omega, show g xs 1 % 4294967296 * 65536 % 4294967296 = g xs 1 * 65536 by omega, show g xs 2 % 4294967296 * 256 % 4294967296 = g xs 2 * 256 by omega, show g xs 3 % 4294967296 = g xs 3 by omega,
    or32 24 (A := g xs 0 * 16777216) (B := g xs 1 * 65536) rfl (by omega) (by omega) (by omega) (by omega) (by omega), or32 16 (A := g xs 0 * 16777216 + g xs 1 * 65536) (B := g xs 2 * 256) rfl (by omega) (by omega) (by omega) (by omega) (by omega), or32 8 (A := g xs 0 * 16777216 + g xs 1 * 65536 + g xs 2 * 256) (B := g xs 3) rfl (by omega) (by omega) (by omega) (by omega) (by omega)]
  exact hK w1 hk
theorem LE32_ok (h : Bs w v xs) (hl : 4 ≤ xs.length) (hK : ∀ w', Kp (fun _ => False) w w' → K (.int .u32 (le4 xs)) w') : cl Try.prog 70 #[v] K w := by
  have b0 := h.gb 0
  have b1 := h.gb 1
  have b2 := h.gb 2
  have b3 := h.gb 3
  apply c70
  unfold s70_p3
  refine h.ixg 3 rfl (by omega) fun b q hld => hld _ ?_
  unfold s70_p2 s70_p2_d
  have hk : Kp (fun _ => False) w (drw w) := kp_drw
  have h := h.kp' hk
  generalize drw w = w1 at hk h ⊢
  refine h.ixg 0 rfl (by omega) fun b q hld => hld _ ?_
  try simp only [e_fd, e_nck, e_pkt, e_pkf, e_gdtt, e_gdtf, e_gdft, e_gdff, e_ift, e_iff, e_not, e_ln, e_lnT, e_cp, e_cvi, e_ex20, e_ex21, e_ex30, e_ex31, e_ex32, e_add, e_sub, e_mul, e_quo, e_rem, e_and, e_or, e_xor, e_shl, e_shr, e_eql, e_neq, e_lss, e_leq, e_gtr, e_geq, e_beq, e_bne, e_peq1, e_peq2, e_pne1, e_pne2, e_zeq1, e_zeq2, e_zne1, e_zne2, e_feq1, e_fne1, e_feq2, e_fne2, e_seq, e_sne, e_ta1, e_ta2, Nat.zero_add, Nat.add_zero, Bool.not_true, Bool.not_false]
  refine h.ixg 1 rfl (by omega) fun b q hld => hld _ ?_
  try simp only [e_fd, e_nck, e_pkt, e_pkf, e_gdtt, e_gdtf, e_gdft, e_gdff, e_ift, e_iff, e_not, e_ln, e_lnT, e_cp, e_cvi, e_ex20, e_ex21, e_ex30, e_ex31, e_ex32, e_add, e_sub, e_mul, e_quo, e_rem, e_and, e_or, e_xor, e_shl, e_shr, e_eql, e_neq, e_lss, e_leq, e_gtr, e_geq, e_beq, e_bne, e_peq1, e_peq2, e_pne1, e_pne2, e_zeq1, e_zeq2, e_zne1, e_zne2, e_feq1, e_fne1, e_feq2, e_fne2, e_seq, e_sne, e_ta1, e_ta2, Nat.zero_add, Nat.add_zero, Bool.not_true, Bool.not_false]
  refine ⟨by decide, ?_⟩
  refine h.ixg 2 rfl (by omega) fun b q hld => hld _ ?_
  try simp only [e_fd, e_nck, e_pkt, e_pkf, e_gdtt, e_gdtf, e_gdft, e_gdff, e_ift, e_iff, e_not, e_ln, e_lnT, e_cp, e_cvi, e_ex20, e_ex21, e_ex30, e_ex31, e_ex32, e_add, e_sub, e_mul, e_quo, e_rem, e_and, e_or, e_xor, e_shl, e_shr, e_eql, e_neq, e_lss, e_leq, e_gtr, e_geq, e_beq, e_bne, e_peq1, e_peq2, e_pne1, e_pne2, e_zeq1, e_zeq2, e_zne1, e_zne2, e_feq1, e_fne1, e_feq2, e_fne2, e_seq, e_sne, e_ta1, e_ta2, Nat.zero_add, Nat.add_zero, Bool.not_true, Bool.not_false]
  refine ⟨by decide, ?_⟩
  refine h.ixg 3 rfl (by omega) fun b q hld => hld _ ?_
  try simp only [e_fd, e_nck, e_pkt, e_pkf, e_gdtt, e_gdtf, e_gdft, e_gdff, e_ift, e_iff, e_not, e_ln, e_lnT, e_cp, e_cvi, e_ex20, e_ex21, e_ex30, e_ex31, e_ex32, e_add, e_sub, e_mul, e_quo, e_rem, e_and, e_or, e_xor, e_shl, e_shr, e_eql, e_neq, e_lss, e_leq, e_gtr, e_geq, e_beq, e_bne, e_peq1, e_peq2, e_pne1, e_pne2, e_zeq1, e_zeq2, e_zne1, e_zne2, e_feq1, e_fne1, e_feq2, e_fne2, e_seq, e_sne, e_ta1, e_ta2, Nat.zero_add, Nat.add_zero, Bool.not_true, Bool.not_false]
  refine ⟨by decide, ?_⟩
  rw [p32_8, p32_16, p32_24, wrapu32 (g xs 0), wrapu32 (g xs 1), wrapu32 (g xs 2), wrapu32 (g xs 3), wrapu32 (_ * 16777216), wrapu32 (_ * 65536), wrapu32 (_ * 256),
    show g xs 3 % 4294967296 * 16777216 % 4294967296 = g xs 3 * 16777216 by omega, show g xs 2 % 4294967296 * 65536 % 4294967296 = g xs 2 * 65536 by omega, show g xs 1 % 4294967296 * 256 % 4294967296 = g xs 1 * 256 by omega, show g xs 0 % 4294967296 = g xs 0 by omega,
    or32' 8 (A := g xs 1 * 256) (B := g xs 0) rfl (by omega) (by omega) (by omega) (by omega) (by omega), or32' 16 (A := g xs 2 * 65536) (B := g xs 1 * 256 + g xs 0) rfl (by omega) (by omega) (by omega) (by omega) (by omega), or32' 24 (A := g xs 3 * 16777216) (B := g xs 2 * 65536 + (g xs 1 * 256 + g xs 0)) rfl (by omega) (by omega) (by omega) (by omega) (by omega)]
  have e : g xs 3 * 16777216 + (g xs 2 * 65536 + (g xs 1 * 256 + g xs 0)) = le4 xs := by unfold le4; omega
  rw [e]
  exact hK w1 hk
theorem BE64_ok (h : Bs w v xs) (hl : 8 ≤ xs.length) (hK : ∀ w', Kp (fun _ => False) w w' → K (.int .u64 (be8 xs)) w') : cl Try.prog 72 #[v] K w := by
  have b0 := h.gb 0
  have b1 := h.gb 1
  have b2 := h.gb 2
  have b3 := h.gb 3
  have b4 := h.gb 4
  have b5 := h.gb 5
  have b6 := h.gb 6
  have b7 := h.gb 7
  apply c72
  unfold s72_p3
  refine h.ixg 7 rfl (by omega) fun b q hld => hld _ ?_
  unfold s72_p2 s72_p2_d
  have hk : Kp (fun _ => False) w (drw w) := kp_drw
  have h := h.kp' hk
  generalize drw w = w1 at hk h ⊢
  refine h.ixg 0 rfl (by omega) fun b q hld => hld _ ?_
  try simp only [e_fd, e_nck, e_pkt, e_pkf, e_gdtt, e_gdtf, e_gdft, e_gdff, e_ift, e_iff, e_not, e_ln, e_lnT, e_cp, e_cvi, e_ex20, e_ex21, e_ex30, e_ex31, e_ex32, e_add, e_sub, e_mul, e_quo, e_rem, e_and, e_or, e_xor, e_shl, e_shr, e_eql, e_neq, e_lss, e_leq, e_gtr, e_geq, e_beq, e_bne, e_peq1, e_peq2, e_pne1, e_pne2, e_zeq1, e_zeq2, e_zne1, e_zne2, e_feq1, e_fne1, e_feq2, e_fne2, e_seq, e_sne, e_ta1, e_ta2, Nat.zero_add, Nat.add_zero, Bool.not_true, Bool.not_false]
  refine ⟨by decide, ?_⟩
  refine h.ixg 1 rfl (by omega) fun b q hld => hld _ ?_
  try simp only [e_fd, e_nck, e_pkt, e_pkf, e_gdtt, e_gdtf, e_gdft, e_gdff, e_ift, e_iff, e_not, e_ln, e_lnT, e_cp, e_cvi, e_ex20, e_ex21, e_ex30, e_ex31, e_ex32, e_add, e_sub, e_mul, e_quo, e_rem, e_and, e_or, e_xor, e_shl, e_shr, e_eql, e_neq, e_lss, e_leq, e_gtr, e_geq, e_beq, e_bne, e_peq1, e_peq2, e_pne1, e_pne2, e_zeq1, e_zeq2, e_zne1, e_zne2, e_feq1, e_fne1, e_feq2, e_fne2, e_seq, e_sne, e_ta1, e_ta2, Nat.zero_add, Nat.add_zero, Bool.not_true, Bool.not_false]
  refine ⟨by decide, ?_⟩
  refine h.ixg 2 rfl (by omega) fun b q hld => hld _ ?_
  try simp only [e_fd, e_nck, e_pkt, e_pkf, e_gdtt, e_gdtf, e_gdft, e_gdff, e_ift, e_iff, e_not, e_ln, e_lnT, e_cp, e_cvi, e_ex20, e_ex21, e_ex30, e_ex31, e_ex32, e_add, e_sub, e_mul, e_quo, e_rem, e_and, e_or, e_xor, e_shl, e_shr, e_eql, e_neq, e_lss, e_leq, e_gtr, e_geq, e_beq, e_bne, e_peq1, e_peq2, e_pne1, e_pne2, e_zeq1, e_zeq2, e_zne1, e_zne2, e_feq1, e_fne1, e_feq2, e_fne2, e_seq, e_sne, e_ta1, e_ta2, Nat.zero_add, Nat.add_zero, Bool.not_true, Bool.not_false]
  refine ⟨by decide, ?_⟩
  refine h.ixg 3 rfl (by omega) fun b q hld => hld _ ?_
  try simp only [e_fd, e_nck, e_pkt, e_pkf, e_gdtt, e_gdtf, e_gdft, e_gdff, e_ift, e_iff, e_not, e_ln, e_lnT, e_cp, e_cvi, e_ex20, e_ex21, e_ex30, e_ex31, e_ex32, e_add, e_sub, e_mul, e_quo, e_rem, e_and, e_or, e_xor, e_shl, e_shr, e_eql, e_neq, e_lss, e_leq, e_gtr, e_geq, e_beq, e_bne, e_peq1, e_peq2, e_pne1, e_pne2, e_zeq1, e_zeq2, e_zne1, e_zne2, e_feq1, e_fne1, e_feq2, e_fne2, e_seq, e_sne, e_ta1, e_ta2, Nat.zero_add, Nat.add_zero, Bool.not_true, Bool.not_false]
  refine ⟨by decide, ?_⟩
  refine h.ixg 4 rfl (by omega) fun b q hld => hld _ ?_
  try simp only [e_fd, e_nck, e_pkt, e_pkf, e_gdtt, e_gdtf, e_gdft, e_gdff, e_ift, e_iff, e_not, e_ln, e_lnT, e_cp, e_cvi, e_ex20, e_ex21, e_ex30, e_ex31, e_ex32, e_add, e_sub, e_mul, e_quo, e_rem, e_and, e_or, e_xor, e_shl, e_shr, e_eql, e_neq, e_lss, e_leq, e_gtr, e_geq, e_beq, e_bne, e_peq1, e_peq2, e_pne1, e_pne2, e_zeq1, e_zeq2, e_zne1, e_zne2, e_feq1, e_fne1, e_feq2, e_fne2, e_seq, e_sne, e_ta1, e_ta2, Nat.zero_add, Nat.add_zero, Bool.not_true, Bool.not_false]
  refine ⟨by decide, ?_⟩
  refine h.ixg 5 rfl (by omega) fun b q hld => hld _ ?_
  try simp only [e_fd, e_nck, e_pkt, e_pkf, e_gdtt, e_gdtf, e_gdft, e_gdff, e_ift, e_iff, e_not, e_ln, e_lnT, e_cp, e_cvi, e_ex20, e_ex21, e_ex30, e_ex31, e_ex32, e_add, e_sub, e_mul, e_quo, e_rem, e_and, e_or, e_xor, e_shl, e_shr, e_eql, e_neq, e_lss, e_leq, e_gtr, e_geq, e_beq, e_bne, e_peq1, e_peq2, e_pne1, e_pne2, e_zeq1, e_zeq2, e_zne1, e_zne2, e_feq1, e_fne1, e_feq2, e_fne2, e_seq, e_sne, e_ta1, e_ta2, Nat.zero_add, Nat.add_zero, Bool.not_true, Bool.not_false]
  refine ⟨by decide, ?_⟩
  refine h.ixg 6 rfl (by omega) fun b q hld => hld _ ?_
  try simp only [e_fd, e_nck, e_pkt, e_pkf, e_gdtt, e_gdtf, e_gdft, e_gdff, e_ift, e_iff, e_not, e_ln, e_lnT, e_cp, e_cvi, e_ex20, e_ex21, e_ex30, e_ex31, e_ex32, e_add, e_sub, e_mul, e_quo, e_rem, e_and, e_or, e_xor, e_shl, e_shr, e_eql, e_neq, e_lss, e_leq, e_gtr, e_geq, e_beq, e_bne, e_peq1, e_peq2, e_pne1, e_pne2, e_zeq1, e_zeq2, e_zne1, e_zne2, e_feq1, e_fne1, e_feq2, e_fne2, e_seq, e_sne, e_ta1, e_ta2, Nat.zero_add, Nat.add_zero, Bool.not_true, Bool.not_false]
  refine ⟨by decide, ?_⟩
  refine h.ixg 7 rfl (by omega) fun b q hld => hld _ ?_
  try simp only [e_fd, e_nck, e_pkt, e_pkf, e_gdtt, e_gdtf, e_gdft, e_gdff, e_ift, e_iff, e_not, e_ln, e_lnT, e_cp, e_cvi, e_ex20, e_ex21, e_ex30, e_ex31, e_ex32, e_add, e_sub, e_mul, e_quo, e_rem, e_and, e_or, e_xor, e_shl, e_shr, e_eql, e_neq, e_lss, e_leq, e_gtr, e_geq, e_beq, e_bne, e_peq1, e_peq2, e_pne1, e_pne2, e_zeq1, e_zeq2, e_zne1, e_zne2, e_feq1, e_fne1, e_feq2, e_fne2, e_seq, e_sne, e_ta1, e_ta2, Nat.zero_add, Nat.add_zero, Bool.not_true, Bool.not_false]
  have e : ∀ i, 0 ≤ g xs i ∧ g xs i ≤ 255 → IntKind.u64.wrap (g xs i) = g xs i := fun i hb => by rw [wrapu64]; omega
  rw [p64_8, p64_16, p64_24, p64_32, p64_40, p64_48, p64_56, e 0 b0, e 1 b1, e 2 b2, e 3 b3, e 4 b4, e 5 b5, e 6 b6, e 7 b7,
    wrapu64 (_ * 72057594037927936), wrapu64 (_ * 281474976710656), wrapu64 (_ * 1099511627776), wrapu64 (_ * 4294967296), wrapu64 (_ * 16777216), wrapu64 (_ * 65536), wrapu64 (_ * 256),
    show g xs 0 * 72057594037927936 % 18446744073709551616 = g xs 0 * 72057594037927936 by omega, show g xs 1 * 281474976710656 % 18446744073709551616 = g xs 1 * 281474976710656 by omega, show g xs 2 * 1099511627776 % 18446744073709551616 = g xs 2 * 1099511627776 by omega, show g xs 3 * 4294967296 % 18446744073709551616 = g xs 3 * 4294967296 by omega,
    show g xs 4 * 16777216 % 18446744073709551616 = g xs 4 * 16777216 by omega, show g xs 5 * 65536 % 18446744073709551616 = g xs 5 * 65536 by omega, show g xs 6 * 256 % 18446744073709551616 = g xs 6 * 256 by omega,
    or64 56 (A := g xs 0 * 72057594037927936) (B := g xs 1 * 281474976710656) rfl (by omega) (by omega) (by omega) (by omega) (by omega), or64 48 (A := g xs 0 * 72057594037927936 + g xs 1 * 281474976710656) (B := g xs 2 * 1099511627776) rfl (by omega) (by omega) (by omega) (by omega) (by omega), or64 40 (A := g xs 0 * 72057594037927936 + g xs 1 * 281474976710656 + g xs 2 * 1099511627776) (B := g xs 3 * 4294967296) rfl (by omega) (by omega) (by omega) (by omega) (by omega), or64 32 (A := g xs 0 * 72057594037927936 + g xs 1 * 281474976710656 + g xs 2 * 1099511627776 + g xs 3 * 4294967296) (B := g xs 4 * 16777216) rfl (by omega) (by omega) (by omega) (by omega) (by omega), or64 24 (A := g xs 0 * 72057594037927936 + g xs 1 * 281474976710656 + g xs 2 * 1099511627776 + g xs 3 * 4294967296 + g xs 4 * 16777216) (B := g xs 5 * 65536) rfl (by omega) (by omega) (by omega) (by omega) (by omega), or64 16 (A := g xs 0 * 72057594037927936 + g xs 1 * 281474976710656 + g xs 2 * 1099511627776 + g xs 3 * 4294967296 + g xs 4 * 16777216 + g xs 5 * 65536) (B := g xs 6 * 256) rfl (by omega) (by omega) (by omega) (by omega) (by omega), or64 8 (A := g xs 0 * 72057594037927936 + g xs 1 * 281474976710656 + g xs 2 * 1099511627776 + g xs 3 * 4294967296 + g xs 4 * 16777216 + g xs 5 * 65536 + g xs 6 * 256) (B := g xs 7) rfl (by omega) (by omega) (by omega) (by omega) (by omega)]
  exact hK w1 hk
theorem LE64_ok (h : Bs w v xs) (hl : 8 ≤ xs.length) (hK : ∀ w', Kp (fun _ => False) w w' → K (.int .u64 (le8 xs)) w') : cl Try.prog 75 #[v] K w := by
  have b0 := h.gb 0
  have b1 := h.gb 1
  have b2 := h.gb 2
  have b3 := h.gb 3
  have b4 := h.gb 4
  have b5 := h.gb 5
  have b6 := h.gb 6
  have b7 := h.gb 7
  apply c75
  unfold s75_p3
  refine h.ixg 7 rfl (by omega) fun b q hld => hld _ ?_
  unfold s75_p2 s75_p2_d
  have hk : Kp (fun _ => False) w (drw w) := kp_drw
  have h := h.kp' hk
  generalize drw w = w1 at hk h ⊢
  refine h.ixg 0 rfl (by omega) fun b q hld => hld _ ?_
  try simp only [e_fd, e_nck, e_pkt, e_pkf, e_gdtt, e_gdtf, e_gdft, e_gdff, e_ift, e_iff, e_not, e_ln, e_lnT, e_cp, e_cvi, e_ex20, e_ex21, e_ex30, e_ex31, e_ex32, e_add, e_sub, e_mul, e_quo, e_rem, e_and, e_or, e_xor, e_shl, e_shr, e_eql, e_neq, e_lss, e_leq, e_gtr, e_geq, e_beq, e_bne, e_peq1, e_peq2, e_pne1, e_pne2, e_zeq1, e_zeq2, e_zne1, e_zne2, e_feq1, e_fne1, e_feq2, e_fne2, e_seq, e_sne, e_ta1, e_ta2, Nat.zero_add, Nat.add_zero, Bool.not_true, Bool.not_false]
  refine h.ixg 1 rfl (by omega) fun b q hld => hld _ ?_
  try simp only [e_fd, e_nck, e_pkt, e_pkf, e_gdtt, e_gdtf, e_gdft, e_gdff, e_ift, e_iff, e_not, e_ln, e_lnT, e_cp, e_cvi, e_ex20, e_ex21, e_ex30, e_ex31, e_ex32, e_add, e_sub, e_mul, e_quo, e_rem, e_and, e_or, e_xor, e_shl, e_shr, e_eql, e_neq, e_lss, e_leq, e_gtr, e_geq, e_beq, e_bne, e_peq1, e_peq2, e_pne1, e_pne2, e_zeq1, e_zeq2, e_zne1, e_zne2, e_feq1, e_fne1, e_feq2, e_fne2, e_seq, e_sne, e_ta1, e_ta2, Nat.zero_add, Nat.add_zero, Bool.not_true, Bool.not_false]
  refine ⟨by decide, ?_⟩
  refine h.ixg 2 rfl (by omega) fun b q hld => hld _ ?_
  try simp only [e_fd, e_nck, e_pkt, e_pkf, e_gdtt, e_gdtf, e_gdft, e_gdff, e_ift, e_iff, e_not, e_ln, e_lnT, e_cp, e_cvi, e_ex20, e_ex21, e_ex30, e_ex31, e_ex32, e_add, e_sub, e_mul, e_quo, e_rem, e_and, e_or, e_xor, e_shl, e_shr, e_eql, e_neq, e_lss, e_leq, e_gtr, e_geq, e_beq, e_bne, e_peq1, e_peq2, e_pne1, e_pne2, e_zeq1, e_zeq2, e_zne1, e_zne2, e_feq1, e_fne1, e_feq2, e_fne2, e_seq, e_sne, e_ta1, e_ta2, Nat.zero_add, Nat.add_zero, Bool.not_true, Bool.not_false]
  refine ⟨by decide, ?_⟩
  refine h.ixg 3 rfl (by omega) fun b q hld => hld _ ?_
  try simp only [e_fd, e_nck, e_pkt, e_pkf, e_gdtt, e_gdtf, e_gdft, e_gdff, e_ift, e_iff, e_not, e_ln, e_lnT, e_cp, e_cvi, e_ex20, e_ex21, e_ex30, e_ex31, e_ex32, e_add, e_sub, e_mul, e_quo, e_rem, e_and, e_or, e_xor, e_shl, e_shr, e_eql, e_neq, e_lss, e_leq, e_gtr, e_geq, e_beq, e_bne, e_peq1, e_peq2, e_pne1, e_pne2, e_zeq1, e_zeq2, e_zne1, e_zne2, e_feq1, e_fne1, e_feq2, e_fne2, e_seq, e_sne, e_ta1, e_ta2, Nat.zero_add, Nat.add_zero, Bool.not_true, Bool.not_false]
  refine ⟨by decide, ?_⟩
  refine h.ixg 4 rfl (by omega) fun b q hld => hld _ ?_
  try simp only [e_fd, e_nck, e_pkt, e_pkf, e_gdtt, e_gdtf, e_gdft, e_gdff, e_ift, e_iff, e_not, e_ln, e_lnT, e_cp, e_cvi, e_ex20, e_ex21, e_ex30, e_ex31, e_ex32, e_add, e_sub, e_mul, e_quo, e_rem, e_and, e_or, e_xor, e_shl, e_shr, e_eql, e_neq, e_lss, e_leq, e_gtr, e_geq, e_beq, e_bne, e_peq1, e_peq2, e_pne1, e_pne2, e_zeq1, e_zeq2, e_zne1, e_zne2, e_feq1, e_fne1, e_feq2, e_fne2, e_seq, e_sne, e_ta1, e_ta2, Nat.zero_add, Nat.add_zero, Bool.not_true, Bool.not_false]
  refine ⟨by decide, ?_⟩
  refine h.ixg 5 rfl (by omega) fun b q hld => hld _ ?_
  try simp only [e_fd, e_nck, e_pkt, e_pkf, e_gdtt, e_gdtf, e_gdft, e_gdff, e_ift, e_iff, e_not, e_ln, e_lnT, e_cp, e_cvi, e_ex20, e_ex21, e_ex30, e_ex31, e_ex32, e_add, e_sub, e_mul, e_quo, e_rem, e_and, e_or, e_xor, e_shl, e_shr, e_eql, e_neq, e_lss, e_leq, e_gtr, e_geq, e_beq, e_bne, e_peq1, e_peq2, e_pne1, e_pne2, e_zeq1, e_zeq2, e_zne1, e_zne2, e_feq1, e_fne1, e_feq2, e_fne2, e_seq, e_sne, e_ta1, e_ta2, Nat.zero_add, Nat.add_zero, Bool.not_true, Bool.not_false]
  refine ⟨by decide, ?_⟩
  refine h.ixg 6 rfl (by omega) fun b q hld => hld _ ?_
  try simp only [e_fd, e_nck, e_pkt, e_pkf, e_gdtt, e_gdtf, e_gdft, e_gdff, e_ift, e_iff, e_not, e_ln, e_lnT, e_cp, e_cvi, e_ex20, e_ex21, e_ex30, e_ex31, e_ex32, e_add, e_sub, e_mul, e_quo, e_rem, e_and, e_or, e_xor, e_shl, e_shr, e_eql, e_neq, e_lss, e_leq, e_gtr, e_geq, e_beq, e_bne, e_peq1, e_peq2, e_pne1, e_pne2, e_zeq1, e_zeq2, e_zne1, e_zne2, e_feq1, e_fne1, e_feq2, e_fne2, e_seq, e_sne, e_ta1, e_ta2, Nat.zero_add, Nat.add_zero, Bool.not_true, Bool.not_false]
  refine ⟨by decide, ?_⟩
  refine h.ixg 7 rfl (by omega) fun b q hld => hld _ ?_
  try simp only [e_fd, e_nck, e_pkt, e_pkf, e_gdtt, e_gdtf, e_gdft, e_gdff, e_ift, e_iff, e_not, e_ln, e_lnT, e_cp, e_cvi, e_ex20, e_ex21, e_ex30, e_ex31, e_ex32, e_add, e_sub, e_mul, e_quo, e_rem, e_and, e_or, e_xor, e_shl, e_shr, e_eql, e_neq, e_lss, e_leq, e_gtr, e_geq, e_beq, e_bne, e_peq1, e_peq2, e_pne1, e_pne2, e_zeq1, e_zeq2, e_zne1, e_zne2, e_feq1, e_fne1, e_feq2, e_fne2, e_seq, e_sne, e_ta1, e_ta2, Nat.zero_add, Nat.add_zero, Bool.not_true, Bool.not_false]
  refine ⟨by decide, ?_⟩
  have e : ∀ i, 0 ≤ g xs i ∧ g xs i ≤ 255 → IntKind.u64.wrap (g xs i) = g xs i := fun i hb => by rw [wrapu64]; omega
  rw [p64_8, p64_16, p64_24, p64_32, p64_40, p64_48, p64_56, e 0 b0, e 1 b1, e 2 b2, e 3 b3, e 4 b4, e 5 b5, e 6 b6, e 7 b7,
    wrapu64 (_ * 72057594037927936), wrapu64 (_ * 281474976710656), wrapu64 (_ * 1099511627776), wrapu64 (_ * 4294967296), wrapu64 (_ * 16777216), wrapu64 (_ * 65536), wrapu64 (_ * 256),
    show g xs 7 * 72057594037927936 % 18446744073709551616 = g xs 7 * 72057594037927936 by omega, show g xs 6 * 281474976710656 % 18446744073709551616 = g xs 6 * 281474976710656 by omega, show g xs 5 * 1099511627776 % 18446744073709551616 = g xs 5 * 1099511627776 by omega, show g xs 4 * 4294967296 % 18446744073709551616 = g xs 4 * 4294967296 by omega,
    show g xs 3 * 16777216 % 18446744073709551616 = g xs 3 * 16777216 by omega, show g xs 2 * 65536 % 18446744073709551616 = g xs 2 * 65536 by omega, show g xs 1 * 256 % 18446744073709551616 = g xs 1 * 256 by omega,
    or64' 8 (A := g xs 1 * 256) (B := g xs 0) rfl (by omega) (by omega) (by omega) (by omega) (by omega), or64' 16 (A := g xs 2 * 65536) (B := g xs 1 * 256 + g xs 0) rfl (by omega) (by omega) (by omega) (by omega) (by omega), or64' 24 (A := g xs 3 * 16777216) (B := g xs 2 * 65536 + (g xs 1 * 256 + g xs 0)) rfl (by omega) (by omega) (by omega) (by omega) (by omega), or64' 32 (A := g xs 4 * 4294967296) (B := g xs 3 * 16777216 + (g xs 2 * 65536 + (g xs 1 * 256 + g xs 0))) rfl (by omega) (by omega) (by omega) (by omega) (by omega), or64' 40 (A := g xs 5 * 1099511627776) (B := g xs 4 * 4294967296 + (g xs 3 * 16777216 + (g xs 2 * 65536 + (g xs 1 * 256 + g xs 0)))) rfl (by omega) (by omega) (by omega) (by omega) (by omega), or64' 48 (A := g xs 6 * 281474976710656) (B := g xs 5 * 1099511627776 + (g xs 4 * 4294967296 + (g xs 3 * 16777216 + (g xs 2 * 65536 + (g xs 1 * 256 + g xs 0))))) rfl (by omega) (by omega) (by omega) (by omega) (by omega), or64' 56 (A := g xs 7 * 72057594037927936) (B := g xs 6 * 281474976710656 + (g xs 5 * 1099511627776 + (g xs 4 * 4294967296 + (g xs 3 * 16777216 + (g xs 2 * 65536 + (g xs 1 * 256 + g xs 0)))))) rfl (by omega) (by omega) (by omega) (by omega) (by omega)]
  have e : g xs 7 * 72057594037927936 + (g xs 6 * 281474976710656 + (g xs 5 * 1099511627776 + (g xs 4 * 4294967296 + (g xs 3 * 16777216 + (g xs 2 * 65536 + (g xs 1 * 256 + g xs 0)))))) = le8 xs := by unfold le8; omega
  rw [e]
  exact hK w1 hk
end
end Go.Proofs.Qxb6500898a
