import Derived.Test.Qxb6500899aFmtH1
import Derived.Laws.Strings
namespace Go.Proofs.Qxb6500899aFmt
open Go.Sh Go.RowKit
set_option linter.unusedVariables false
set_option linter.unusedSimpArgs false

def pop8 (n : Nat) : Nat := n % 2 + n / 2 % 2 + n / 4 % 2 + n / 8 % 2 + n / 16 % 2 + n / 32 % 2 + n / 64 % 2 + n / 128 % 2
abbrev tab : ByteArray := lit_1
theorem tab_pop : ∀ n < 256, (tab.data[n]?).map UInt8.toNat = some (pop8 n) := by decide +kernel
theorem pop_le (n : Nat) : pop8 n ≤ 8 := by unfold pop8; omega
theorem pow2_iff : ∀ hi < 256, ∀ lo < 256, 16 ≤ 256 * hi + lo → ((pop8 hi + pop8 lo = 1) = ((256 * hi + lo) &&& (256 * hi + lo - 1) = 0)) := by
  have h : ∀ hi < 256, ∀ lo < 256, 16 ≤ 256 * hi + lo → (pop8 hi + pop8 lo = 1 ↔ (256 * hi + lo) &&& (256 * hi + lo - 1) = 0) := by decide +kernel
  intro hi h1 lo h2 h3
  exact propext (h hi h1 lo h2 h3)
/-- the number of ones, of a number of at most 17 bits -/
def ones (x : Nat) : Nat := pop8 (x / 65536) + pop8 (x / 256 % 256) + pop8 (x % 256)
theorem ones_iff {x : Nat} (h0 : 16 ≤ x) (h1 : x ≤ 65536) : ones x = 1 ↔ x &&& (x - 1) = 0 := by
  rcases Nat.lt_or_ge x 65536 with h | h
  · have e := pow2_iff (x / 256) (by omega) (x % 256) (by omega) (by omega)
    have e2 : 256 * (x / 256) + x % 256 = x := by omega
    rw [e2] at e
    unfold ones
    have e3 : x / 65536 = 0 := by omega
    have e4 : x / 256 % 256 = x / 256 := by omega
    rw [e3, e4, show pop8 0 = 0 from rfl, Nat.zero_add, e]
  · obtain rfl : x = 65536 := by omega
    decide
theorem of_q {k n : Nat} (hn : n < 2 ^ k) : (BitVec.ofInt k (n : Int)).toNat = n := by
  rw [BitVec.ofInt_natCast, BitVec.toNat_ofNat, Nat.mod_eq_of_lt hn]
theorem wrapu32 (n : Int) : IntKind.u32.wrap n = n % 4294967296 := by
  have e : (2 ^ IntKind.u32.bits : Int) = 4294967296 := by decide
  unfold IntKind.wrap
  rw [e]
  simp [IntKind.signed]
theorem wrapu64 (n : Int) : IntKind.u64.wrap n = n % 18446744073709551616 := by
  have e : (2 ^ IntKind.u64.bits : Int) = 18446744073709551616 := by decide
  unfold IntKind.wrap
  rw [e]
  simp [IntKind.signed]
theorem wrapu8 (n : Int) : IntKind.u8.wrap n = n % 256 := by
  have e : (2 ^ IntKind.u8.bits : Int) = 256 := by decide
  unfold IntKind.wrap
  rw [e]
  simp [IntKind.signed]
theorem and32 {a b : Nat} (ha : a < 4294967296) (hb : b < 4294967296) : IntKind.u32.wrap (BitVec.ofInt IntKind.u32.bits ((a : Nat) : Int) &&& BitVec.ofInt IntKind.u32.bits ((b : Nat) : Int)).toNat = ((a &&& b : Nat) : Int) := by
  have e : IntKind.u32.bits = 32 := rfl
  have hle : a &&& b ≤ a := Nat.and_le_left
  rw [e, BitVec.toNat_and, of_q (by omega), of_q (by omega), wrapu32]
  omega
theorem and255 {a : Nat} (ha : a < 4294967296) : IntKind.u32.wrap (BitVec.ofInt IntKind.u32.bits ((a : Nat) : Int) &&& BitVec.ofInt IntKind.u32.bits 255).toNat = ((a % 256 : Nat) : Int) := by
  have := and32 (b := 255) ha (by decide)
  rw [show ((255 : Nat) : Int) = 255 from rfl] at this
  rw [this, show (255 : Nat) = 2 ^ 8 - 1 from rfl, Nat.and_two_pow_sub_one_eq_mod]
theorem shr32 {a k : Nat} (hk : k ≤ 32) : ((a : Nat) : Int).fdiv (2 ^ (min ((k : Nat) : Int).toNat IntKind.u32.bits)) = ((a / 2 ^ k : Nat) : Int) := by
  have e : min ((k : Nat) : Int).toNat IntKind.u32.bits = k := by
    have : IntKind.u32.bits = 32 := rfl
    rw [this]; omega
  have e2 : (2 ^ k : Int) = ((2 ^ k : Nat) : Int) := by rw [Int.natCast_pow]; rfl
  rw [e, e2, Int.fdiv_eq_ediv_of_nonneg _ (Int.natCast_nonneg _)]
  exact (Int.natCast_ediv _ _).symm
theorem tab_size : lit_1.size = 256 := by decide +kernel
theorem tab_at {n : Nat} (hn : n < 256) : (lit_1[((n : Nat) : Int).toNat]'(by rw [tab_size]; omega)).toNat = pop8 n := by
  have h := tab_pop n hn
  have h2 : lit_1.data[n]? = some (lit_1[((n : Nat) : Int).toNat]'(by rw [tab_size]; omega)) := by
    have e : ((n : Nat) : Int).toNat = n := by omega
    simp only [e]
    exact Array.getElem?_eq_getElem (xs := lit_1.data) (i := n) (by show n < lit_1.size; rw [tab_size]; omega)
  have h' : (lit_1.data[n]?).map UInt8.toNat = some (pop8 n) := h
  rw [h2] at h'
  exact Option.some.inj h'
section
variable {w w' : World} {K : Value → World → Prop}
theorem iv_s {t : TypeId} {n : Nat} (ht : Tryf.prog.underlying t = some .string) (hn : n < 256) (hK : K (U8 (pop8 n : Nat)) w) : iv Tryf.prog t (.string lit_1) (U32 (n : Nat)) K w := by
  unfold iv
  refine rs_ok (v := U8 (pop8 n : Nat)) (w' := w) ?_ hK
  rw [run_index_string w t lit_1 .u32 _ ht, dif_pos ⟨by omega, by rw [tab_size]; omega⟩, tab_at hn]
set_option maxRecDepth 100000 in
theorem u9 : Tryf.prog.underlying 9 = some .string := by kernel_rfl
theorem ones_ok {x : Nat} (h1 : x ≤ 65536) (hK : ∀ w', Kp (fun _ => False) w w' → K (I (ones x : Nat)) w') : cl Tryf.prog 21 #[U32 (x : Nat)] K w := by
  apply c21
  unfold s21_p3 s21_p2 s21_p2_d
  try simp only [e_fd, e_nck, e_pkt, e_pkf, e_gdtt, e_gdtf, e_gdft, e_gdff, e_ift, e_iff, e_not, e_ln, e_lnT, e_cp, e_cvi, e_ex20, e_ex21, e_ex30, e_ex31, e_ex32, e_add, e_sub, e_mul, e_quo, e_rem, e_and, e_or, e_xor, e_shl, e_shr, e_eql, e_neq, e_lss, e_leq, e_gtr, e_geq, e_beq, e_bne, e_peq1, e_peq2, e_pne1, e_pne2, e_zeq1, e_zeq2, e_zne1, e_zne2, e_feq1, e_fne1, e_feq2, e_fne2, e_seq, e_sne, e_ta1, e_ta2, Nat.zero_add, Nat.add_zero, Bool.not_true, Bool.not_false]
  refine ⟨by decide, ?_⟩
  have e24 := shr32 (a := x) (k := 24) (by decide)
  rw [show ((24 : Nat) : Int) = 24 from rfl] at e24
  rw [e24, show x / 2 ^ 24 = 0 by omega]
  refine ⟨U8 (pop8 0 : Nat), fun w1 _ => iv_s u9 (by decide) ⟨rfl, rfl⟩, ?_⟩
  try simp only [e_fd, e_nck, e_pkt, e_pkf, e_gdtt, e_gdtf, e_gdft, e_gdff, e_ift, e_iff, e_not, e_ln, e_lnT, e_cp, e_cvi, e_ex20, e_ex21, e_ex30, e_ex31, e_ex32, e_add, e_sub, e_mul, e_quo, e_rem, e_and, e_or, e_xor, e_shl, e_shr, e_eql, e_neq, e_lss, e_leq, e_gtr, e_geq, e_beq, e_bne, e_peq1, e_peq2, e_pne1, e_pne2, e_zeq1, e_zeq2, e_zne1, e_zne2, e_feq1, e_fne1, e_feq2, e_fne2, e_seq, e_sne, e_ta1, e_ta2, Nat.zero_add, Nat.add_zero, Bool.not_true, Bool.not_false]
  refine ⟨by decide, ?_⟩
  have e16 := shr32 (a := x) (k := 16) (by decide)
  rw [show ((16 : Nat) : Int) = 16 from rfl] at e16
  rw [e16, and255 (by omega), show x / 2 ^ 16 % 256 = x / 65536 by omega]
  refine ⟨U8 (pop8 (x / 65536) : Nat), fun w1 _ => iv_s u9 (by omega) ⟨rfl, rfl⟩, ?_⟩
  try simp only [e_fd, e_nck, e_pkt, e_pkf, e_gdtt, e_gdtf, e_gdft, e_gdff, e_ift, e_iff, e_not, e_ln, e_lnT, e_cp, e_cvi, e_ex20, e_ex21, e_ex30, e_ex31, e_ex32, e_add, e_sub, e_mul, e_quo, e_rem, e_and, e_or, e_xor, e_shl, e_shr, e_eql, e_neq, e_lss, e_leq, e_gtr, e_geq, e_beq, e_bne, e_peq1, e_peq2, e_pne1, e_pne2, e_zeq1, e_zeq2, e_zne1, e_zne2, e_feq1, e_fne1, e_feq2, e_fne2, e_seq, e_sne, e_ta1, e_ta2, Nat.zero_add, Nat.add_zero, Bool.not_true, Bool.not_false]
  refine ⟨by decide, ?_⟩
  have e8 := shr32 (a := x) (k := 8) (by decide)
  rw [show ((8 : Nat) : Int) = 8 from rfl] at e8
  rw [e8, and255 (by omega), show x / 2 ^ 8 = x / 256 from rfl]
  refine ⟨U8 (pop8 (x / 256 % 256) : Nat), fun w1 _ => iv_s u9 (by omega) ⟨rfl, rfl⟩, ?_⟩
  try simp only [e_fd, e_nck, e_pkt, e_pkf, e_gdtt, e_gdtf, e_gdft, e_gdff, e_ift, e_iff, e_not, e_ln, e_lnT, e_cp, e_cvi, e_ex20, e_ex21, e_ex30, e_ex31, e_ex32, e_add, e_sub, e_mul, e_quo, e_rem, e_and, e_or, e_xor, e_shl, e_shr, e_eql, e_neq, e_lss, e_leq, e_gtr, e_geq, e_beq, e_bne, e_peq1, e_peq2, e_pne1, e_pne2, e_zeq1, e_zeq2, e_zne1, e_zne2, e_feq1, e_fne1, e_feq2, e_fne2, e_seq, e_sne, e_ta1, e_ta2, Nat.zero_add, Nat.add_zero, Bool.not_true, Bool.not_false]
  rw [and255 (by omega)]
  refine ⟨U8 (pop8 (x % 256) : Nat), fun w1 _ => iv_s u9 (by omega) ⟨rfl, rfl⟩, ?_⟩
  try simp only [e_fd, e_nck, e_pkt, e_pkf, e_gdtt, e_gdtf, e_gdft, e_gdff, e_ift, e_iff, e_not, e_ln, e_lnT, e_cp, e_cvi, e_ex20, e_ex21, e_ex30, e_ex31, e_ex32, e_add, e_sub, e_mul, e_quo, e_rem, e_and, e_or, e_xor, e_shl, e_shr, e_eql, e_neq, e_lss, e_leq, e_gtr, e_geq, e_beq, e_bne, e_peq1, e_peq2, e_pne1, e_pne2, e_zeq1, e_zeq2, e_zne1, e_zne2, e_feq1, e_fne1, e_feq2, e_fne2, e_seq, e_sne, e_ta1, e_ta2, Nat.zero_add, Nat.add_zero, Bool.not_true, Bool.not_false]
  unfold s21_p1
  have a1 := pop_le (x / 65536)
  have a2 := pop_le (x / 256 % 256)
  have a3 := pop_le (x % 256)
  have := hK (drw w) kp_drw
  have e : IntKind.i64.wrap (IntKind.u8.wrap (IntKind.u8.wrap (IntKind.u8.wrap (((pop8 0 : Nat) : Int) + ((pop8 (x / 65536) : Nat) : Int)) + ((pop8 (x / 256 % 256) : Nat) : Int)) + ((pop8 (x % 256) : Nat) : Int))) = ((ones x : Nat) : Int) := by
    rw [show pop8 0 = 0 from rfl, wrapu8, wrapu8, wrapu8, wrap64_id (by omega) (by omega)]
    unfold ones
    omega
  rw [e]
  exact this
end
end Go.Proofs.Qxb6500899aFmt
