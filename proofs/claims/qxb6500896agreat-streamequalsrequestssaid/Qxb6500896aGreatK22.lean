import Derived.Test.Qxb6500896aGreatK19
import Derived.Test.Qxb6500896aGreatGb
namespace Go.Proofs.Qxb6500896aGreat
open Go.Sh Go.RowKit
set_option linter.unusedVariables false
set_option linter.unusedSimpArgs false

/-! ### numbers -/
theorem wrapu8 (n : Int) : IntKind.u8.wrap n = n % 256 := by
  have e : (2 ^ IntKind.u8.bits : Int) = 256 := by decide
  unfold IntKind.wrap
  rw [e]
  simp [IntKind.signed]
theorem wrapu64 (n : Int) : IntKind.u64.wrap n = n % 18446744073709551616 := by
  have e : (2 ^ IntKind.u64.bits : Int) = 18446744073709551616 := by decide
  unfold IntKind.wrap
  rw [e]
  simp [IntKind.signed]
theorem of_q {k n : Nat} (hn : n < 2 ^ k) : (BitVec.ofInt k (n : Int)).toNat = n := by
  rw [BitVec.ofInt_natCast, BitVec.toNat_ofNat, Nat.mod_eq_of_lt hn]
theorem or_nat {i A B : Nat} (hd : A % 2 ^ i = 0) (hB : B < 2 ^ i) : A ||| B = A + B := by
  have : A = 2 ^ i * (A / 2 ^ i) := by
    have := Nat.div_add_mod A (2 ^ i)
    rw [hd, Nat.add_zero] at this
    exact this.symm
  rw [this, Nat.two_pow_add_eq_or_of_lt hB]
theorem or8 {x : Nat} : IntKind.u8.wrap (BitVec.ofInt IntKind.u8.bits ((x % 256 : Nat) : Int) ||| BitVec.ofInt IntKind.u8.bits 128).toNat = ((x % 128 + 128 : Nat) : Int) := by
  have key : ∀ n : Nat, n < 256 → n ||| 128 = n % 128 + 128 := by decide +kernel
  have e8 : IntKind.u8.bits = 8 := rfl
  rw [e8, BitVec.toNat_or, of_q (by omega), show (128 : Int) = ((128 : Nat) : Int) from rfl, of_q (by decide), key _ (by omega), wrapu8]
  omega
theorem and127 {x : Nat} (hx : x < 256) : IntKind.u8.wrap (BitVec.ofInt IntKind.u8.bits ((x : Nat) : Int) &&& BitVec.ofInt IntKind.u8.bits 127).toNat = ((x % 128 : Nat) : Int) := by
  have e8 : IntKind.u8.bits = 8 := rfl
  rw [e8, BitVec.toNat_and, of_q (by omega), show (127 : Int) = ((127 : Nat) : Int) from rfl, of_q (by decide), show (127 : Nat) = 2 ^ 7 - 1 from rfl, Nat.and_two_pow_sub_one_eq_mod, wrapu8]
  omega
/-- the octets of a number, seven bits each -/
def uvF : Nat → Nat → List Int
  | 0, _ => []
  | f + 1, x => if x < 128 then [(x : Int)] else ((x % 128 + 128 : Nat) : Int) :: uvF f (x / 128)
def uv (x : Nat) : List Int := uvF 9 x
theorem uvF_small {f x : Nat} (h : x < 128) : uvF (f + 1) x = [(x : Int)] := by unfold uvF; rw [if_pos h]
theorem uvF_big {f x : Nat} (h : ¬ x < 128) : uvF (f + 1) x = ((x % 128 + 128 : Nat) : Int) :: uvF f (x / 128) := by rw [uvF, if_neg h]
theorem uvF_len : ∀ {f x : Nat}, (uvF f x).length ≤ f
  | 0, _ => Nat.le_refl _
  | f + 1, x => by
    by_cases h : x < 128
    · rw [uvF_small h]; simp
    · rw [uvF_big h, List.length_cons]; have := uvF_len (f := f) (x := x / 128); omega
theorem uvF_by : ∀ {f x : Nat}, ∀ y ∈ uvF f x, 0 ≤ y ∧ y ≤ 255
  | 0, _, y, hy => by cases hy
  | f + 1, x, y, hy => by
    by_cases h : x < 128
    · rw [uvF_small h] at hy; simp at hy; omega
    · rw [uvF_big h] at hy
      rcases List.mem_cons.1 hy with q | q
      · omega
      · exact uvF_by y q
theorem uvF_pos {f x : Nat} : 0 < (uvF (f + 1) x).length := by
  by_cases h : x < 128
  · rw [uvF_small h]; simp
  · rw [uvF_big h]; simp

def By (bs : List Int) : Prop := ∀ b ∈ bs, 0 ≤ b ∧ b ≤ 255
theorem By.nil : By [] := fun b h => by cases h
theorem By.app {a b : List Int} (h : By a) (h' : By b) : By (a ++ b) := fun x hx => (List.mem_append.1 hx).elim (h x) (h' x)
theorem By.drop {a : List Int} (h : By a) (n : Nat) : By (a.drop n) := fun x hx => h x (List.mem_of_mem_drop hx)
theorem By.take {a : List Int} (h : By a) (n : Nat) : By (a.take n) := fun x hx => h x (List.mem_of_mem_take hx)
theorem By.cons {x : Int} {a : List Int} (h0 : 0 ≤ x ∧ x ≤ 255) (h : By a) : By (x :: a) := fun y hy => (List.mem_cons.1 hy).elim (fun e => e ▸ h0) (h y)
theorem uv_by {x : Nat} : By (uv x) := uvF_by
theorem uv_len {x : Nat} : (uv x).length ≤ 9 := uvF_len
theorem uv_pos {x : Nat} : 0 < (uv x).length := uvF_pos (f := 8)
/-- reading a number: the number, its width, how it ended -/
def scanG : Nat → Nat → Nat → List Int → Nat × Nat × Nat
  | 0, _, _, _ => (0, 0, 2)
  | _ + 1, _, _, [] => (0, 0, 1)
  | f + 1, i, a, b :: bs => if b < 128 then (if b = 0 ∧ 0 < i then (0, 0, 2) else (a + b.toNat % 128 * 128 ^ i, i + 1, 0)) else scanG f (i + 1) (a + b.toNat % 128 * 128 ^ i) bs
def scan (bs : List Int) : Nat × Nat × Nat := scanG 9 0 0 bs
abbrev AppK (w : World) (ob : Option Nat) (ys : List Int) (K : Value → World → Prop) : Prop := ∀ w' t' ob', Sl bC 1 w' 5 ob' t' ys → Kp (fun b => ob = some b) w w' → (ob' = ob ∨ ∃ b, ob' = some b ∧ w.heap.size ≤ b) → K t' w'
section
variable {F : Nat → Prop} {W w w' : World} {v t0 : Value} {ob : Option Nat} {xs ys bs : List Int} {K : Value → World → Prop} {x f i : Nat}
theorem pow7 (i : Nat) : (2 : Nat) ^ (7 * i) = 128 ^ i := by rw [Nat.pow_mul]
theorem shl7 {q : Nat} (hi : i ≤ 9) (hq : q * 128 ^ i < 18446744073709551616) : IntKind.u64.wrap (((q : Nat) : Int) * 2 ^ (min (((7 * i : Nat) : Int)).toNat IntKind.u64.bits)) = ((q * 128 ^ i : Nat) : Int) := by
  have e : min (((7 * i : Nat) : Int)).toNat IntKind.u64.bits = 7 * i := by
    have : IntKind.u64.bits = 64 := rfl
    rw [this]; omega
  rw [e, wrapu64]
  have e2 : ((q : Nat) : Int) * 2 ^ (7 * i) = ((q * 128 ^ i : Nat) : Int) := by
    rw [← pow7, Int.natCast_mul, Int.natCast_pow]; rfl
  rw [e2]
  exact Int.emod_eq_of_lt (by omega) (by omega)
theorem or7 {a q : Nat} (ha : a < 128 ^ i) (hs : a + q * 128 ^ i < 18446744073709551616) : IntKind.u64.wrap (BitVec.ofInt IntKind.u64.bits ((a : Nat) : Int) ||| BitVec.ofInt IntKind.u64.bits ((q * 128 ^ i : Nat) : Int)).toNat = ((a + q * 128 ^ i : Nat) : Int) := by
  have e2 : IntKind.u64.bits = 64 := rfl
  rw [e2, BitVec.or_comm, BitVec.toNat_or, of_q (by omega), of_q (by omega)]
  rw [← pow7] at ha hs ⊢
  rw [or_nat (i := 7 * i) (Nat.mul_mod_left _ _) ha, wrapu64]
  omega
theorem p9 : (128 : Nat) ^ 9 = 9223372036854775808 := by decide
theorem u64id {n : Int} (h : 0 ≤ n) (h2 : n < 18446744073709551616) : IntKind.u64.wrap n = n := by rw [wrapu64, Int.emod_eq_of_lt h h2]
theorem acc_lt {a q : Nat} (ha : a < 128 ^ i) (hq : q < 128) : a + q * 128 ^ i < 128 ^ (i + 1) := by
  rw [Nat.pow_succ]
  have h1 : (q + 1) * 128 ^ i ≤ 128 * 128 ^ i := Nat.mul_le_mul_right _ (by omega)
  rw [Nat.add_mul, Nat.one_mul] at h1
  rw [Nat.mul_comm (128 ^ i) 128]
  omega
theorem pow_le9 (hi : i ≤ 9) : 128 ^ i ≤ 9223372036854775808 := by
  rw [← p9]; exact Nat.pow_le_pow_right (by decide) hi
theorem app_o1 {a : Int} (h : Sl bC 1 w 5 ob v ys) (hl : ys.length ≤ 4398046511104) (hK : AppK w ob (ys ++ [a]) K) : bsq 5 [(.int .u8 0)] 1 [(some (0, 1), U8 a)] (fun t w => apq 5 [(.int .u8 0)] 1 v t K w) w :=
  h.app bC_len rfl a rfl (by omega) (by omega) rfl hK
theorem shr7 {x : Nat} : ((x : Nat) : Int).fdiv (2 ^ (min ((7 : Int)).toNat IntKind.u64.bits)) = ((x / 128 : Nat) : Int) := by
  rw [show (2 ^ (min ((7 : Int)).toNat IntKind.u64.bits) : Int) = 128 from by decide, Int.fdiv_eq_ediv_of_nonneg _ (by decide)]
  omega
theorem appN_ok (h : Sl bC 1 w 5 ob v ys) (hl : ys.length ≤ 1000000000) (hx : x < 9223372036854775808) (hK : AppK w ob (ys ++ uv x) K) : cl Tryz.prog 136 #[v, I (x : Nat)] K w := by
  apply c136
  unfold s136_p4
  try simp only [e_fd, e_nck, e_pkt, e_pkf, e_gdtt, e_gdtf, e_gdft, e_gdff, e_ift, e_iff, e_not, e_ln, e_lnT, e_cp, e_cvi, e_ex20, e_ex21, e_ex30, e_ex31, e_ex32, e_add, e_sub, e_mul, e_quo, e_rem, e_and, e_or, e_xor, e_shl, e_shr, e_eql, e_neq, e_lss, e_leq, e_gtr, e_geq, e_beq, e_bne, e_peq1, e_peq2, e_pne1, e_pne2, e_zeq1, e_zeq2, e_zne1, e_zne2, e_feq1, e_fne1, e_feq2, e_fne2, e_seq, e_sne, e_ta1, e_ta2, Nat.zero_add, Nat.add_zero, Bool.not_true, Bool.not_false]
  rw [wrapu64, show ((x : Nat) : Int) % 18446744073709551616 = ((x : Nat) : Int) by omega]
  unfold s136_p3
  refine ⟨fun n l w' => ∃ (x' : Nat) (v' : Value) (ob' : Option Nat) (zs : List Int), n < 9 ∧ x' < 128 ^ (n + 1) ∧ x' < 18446744073709551616 ∧ l = [v', .int .u64 (x' : Nat)] ∧ Sl bC 1 w' 5 ob' v' (ys ++ zs) ∧ zs.length ≤ 9 ∧ zs ++ uvF (n + 1) x' = uv x ∧ Kp (fun b => ob = some b) w w' ∧ (ob' = ob ∨ ∃ b, ob' = some b ∧ w.heap.size ≤ b),
    8, ⟨x, v, ob, [], by decide, by rw [p9]; omega, by omega, rfl, by simpa using h, by simp, rfl, Kp.refl _ _, .inl rfl⟩, ?_⟩
  rintro f l w1 ⟨x', v', ob', zs, hf, hxf, hx', rfl, s1, hz, he, hk1, ho1⟩
  have sz := hk1.size
  have hll : (ys ++ zs).length ≤ 4398046511104 := by rw [List.length_append]; omega
  have join : ∀ {w2 : World} {t2 : Value} {ob2 : Option Nat}, Kp (fun b => ob' = some b) w1 w2 → (ob2 = ob' ∨ ∃ b, ob2 = some b ∧ w1.heap.size ≤ b) → Kp (fun b => ob = some b) w w2 ∧ (ob2 = ob ∨ ∃ b, ob2 = some b ∧ w.heap.size ≤ b) := by
    intro w2 t2 ob2 hk2 ho2
    constructor
    · refine hk1.then hk2 fun b hb q => ?_
      rcases ho1 with e | ⟨c, e, hc⟩
      · rw [← e]; exact q
      · rw [e] at q; cases q; omega
    · rcases ho2 with e | ⟨c, e, hc⟩
      · rw [e]; exact ho1
      · exact .inr ⟨c, e, by omega⟩
  rw [s136_p3_Fe]
  unfold s136_p2
  try simp only [e_fd, e_nck, e_pkt, e_pkf, e_gdtt, e_gdtf, e_gdft, e_gdff, e_ift, e_iff, e_not, e_ln, e_lnT, e_cp, e_cvi, e_ex20, e_ex21, e_ex30, e_ex31, e_ex32, e_add, e_sub, e_mul, e_quo, e_rem, e_and, e_or, e_xor, e_shl, e_shr, e_eql, e_neq, e_lss, e_leq, e_gtr, e_geq, e_beq, e_bne, e_peq1, e_peq2, e_pne1, e_pne2, e_zeq1, e_zeq2, e_zne1, e_zne2, e_feq1, e_fne1, e_feq2, e_fne2, e_seq, e_sne, e_ta1, e_ta2, Nat.zero_add, Nat.add_zero, Bool.not_true, Bool.not_false]
  by_cases hb : x' < 128
  · have hb' : ¬ (128 : Int) ≤ ((x' : Nat) : Int) := by omega
    simp only [hb', decide_false, e_fd, e_nck, e_pkt, e_pkf, e_gdtt, e_gdtf, e_gdft, e_gdff, e_ift, e_iff, e_not, e_ln, e_lnT, e_cp, e_cvi, e_ex20, e_ex21, e_ex30, e_ex31, e_ex32, e_add, e_sub, e_mul, e_quo, e_rem, e_and, e_or, e_xor, e_shl, e_shr, e_eql, e_neq, e_lss, e_leq, e_gtr, e_geq, e_beq, e_bne, e_peq1, e_peq2, e_pne1, e_pne2, e_zeq1, e_zeq2, e_zne1, e_zne2, e_feq1, e_fne1, e_feq2, e_fne2, e_seq, e_sne, e_ta1, e_ta2, Nat.zero_add, Nat.add_zero, Bool.not_true, Bool.not_false]
    unfold s136_p1
    try simp only [e_fd, e_nck, e_pkt, e_pkf, e_gdtt, e_gdtf, e_gdft, e_gdff, e_ift, e_iff, e_not, e_ln, e_lnT, e_cp, e_cvi, e_ex20, e_ex21, e_ex30, e_ex31, e_ex32, e_add, e_sub, e_mul, e_quo, e_rem, e_and, e_or, e_xor, e_shl, e_shr, e_eql, e_neq, e_lss, e_leq, e_gtr, e_geq, e_beq, e_bne, e_peq1, e_peq2, e_pne1, e_pne2, e_zeq1, e_zeq2, e_zne1, e_zne2, e_feq1, e_fne1, e_feq2, e_fne2, e_seq, e_sne, e_ta1, e_ta2, Nat.zero_add, Nat.add_zero, Bool.not_true, Bool.not_false]
    rw [wrapu8, show ((x' : Nat) : Int) % 256 = ((x' : Nat) : Int) by omega]
    refine app_o1 s1 hll fun w2 t2 ob2 s2 hk2 ho2 => ?_
    rw [uvF_small hb] at he
    rw [List.append_assoc, he] at s2
    obtain ⟨k, o⟩ := join (t2 := t2) hk2 ho2
    exact hK w2 t2 ob2 s2 k o
  · have hb' : (128 : Int) ≤ ((x' : Nat) : Int) := by omega
    simp only [hb', decide_true, e_fd, e_nck, e_pkt, e_pkf, e_gdtt, e_gdtf, e_gdft, e_gdff, e_ift, e_iff, e_not, e_ln, e_lnT, e_cp, e_cvi, e_ex20, e_ex21, e_ex30, e_ex31, e_ex32, e_add, e_sub, e_mul, e_quo, e_rem, e_and, e_or, e_xor, e_shl, e_shr, e_eql, e_neq, e_lss, e_leq, e_gtr, e_geq, e_beq, e_bne, e_peq1, e_peq2, e_pne1, e_pne2, e_zeq1, e_zeq2, e_zne1, e_zne2, e_feq1, e_fne1, e_feq2, e_fne2, e_seq, e_sne, e_ta1, e_ta2, Nat.zero_add, Nat.add_zero, Bool.not_true, Bool.not_false]
    rw [wrapu8 ((x' : Nat) : Int), show ((x' : Nat) : Int) % 256 = ((x' % 256 : Nat) : Int) by omega, or8]
    refine app_o1 s1 hll fun w2 t2 ob2 s2 hk2 ho2 => ?_
    try simp only [e_fd, e_nck, e_pkt, e_pkf, e_gdtt, e_gdtf, e_gdft, e_gdff, e_ift, e_iff, e_not, e_ln, e_lnT, e_cp, e_cvi, e_ex20, e_ex21, e_ex30, e_ex31, e_ex32, e_add, e_sub, e_mul, e_quo, e_rem, e_and, e_or, e_xor, e_shl, e_shr, e_eql, e_neq, e_lss, e_leq, e_gtr, e_geq, e_beq, e_bne, e_peq1, e_peq2, e_pne1, e_pne2, e_zeq1, e_zeq2, e_zne1, e_zne2, e_feq1, e_fne1, e_feq2, e_fne2, e_seq, e_sne, e_ta1, e_ta2, Nat.zero_add, Nat.add_zero, Bool.not_true, Bool.not_false]
    refine ⟨by decide, ?_⟩
    rw [shr7]
    obtain ⟨k, o⟩ := join (t2 := t2) hk2 ho2
    have hf0 : 0 < f := by
      rcases Nat.eq_zero_or_pos f with q | q
      · subst q; rw [show (128 : Nat) ^ (0 + 1) = 128 from rfl] at hxf; omega
      · exact q
    obtain ⟨f', rfl⟩ : ∃ f', f = f' + 1 := ⟨f - 1, by omega⟩
    rw [uvF_big hb] at he
    refine ⟨f', by omega, x' / 128, t2, ob2, zs ++ [((x' % 128 + 128 : Nat) : Int)], by omega, ?_, by omega, rfl, by rw [← List.append_assoc]; exact s2, ?_, by rw [List.append_assoc]; exact he, k, o⟩
    · rw [Nat.pow_succ] at hxf
      exact Nat.div_lt_of_lt_mul (by rw [Nat.mul_comm]; exact hxf)
    · have h1 := congrArg List.length he
      rw [List.length_append, List.length_cons] at h1
      have h2 : (uv x).length ≤ 9 := uvF_len
      rw [List.length_append, List.length_singleton]
      omega
theorem scanN_ok (h : Ar bC 1 F w v bs) (hb : By bs) (hK : K (.tuple #[I ((scan bs).1 : Nat), I ((scan bs).2.1 : Nat), I ((scan bs).2.2 : Nat)]) w) : cl Tryz.prog 157 #[v] K w := by
  have hbl := h.len
  apply c157
  unfold s157_p4 s157_p3
  refine ⟨fun n l w' => w' = w ∧ ∃ i a : Nat, n + i = 9 ∧ a < 128 ^ i ∧ l = [v, .int .u64 (a : Nat), I (i : Nat)] ∧ i ≤ bs.length ∧ scanG n i a (bs.drop i) = scan bs, 9, ⟨rfl, 0, 0, rfl, by decide, rfl, Nat.zero_le _, rfl⟩, ?_⟩
  rintro n l w1 ⟨rfl, i, a, hn, ha, rfl, hil, hs⟩
  rw [s157_p3_Fe]
  unfold s157_p2
  try simp only [e_fd, e_nck, e_pkt, e_pkf, e_gdtt, e_gdtf, e_gdft, e_gdff, e_ift, e_iff, e_not, e_ln, e_lnT, e_cp, e_cvi, e_ex20, e_ex21, e_ex30, e_ex31, e_ex32, e_add, e_sub, e_mul, e_quo, e_rem, e_and, e_or, e_xor, e_shl, e_shr, e_eql, e_neq, e_lss, e_leq, e_gtr, e_geq, e_beq, e_bne, e_peq1, e_peq2, e_pne1, e_pne2, e_zeq1, e_zeq2, e_zne1, e_zne2, e_feq1, e_fne1, e_feq2, e_fne2, e_seq, e_sne, e_ta1, e_ta2, Nat.zero_add, Nat.add_zero, Bool.not_true, Bool.not_false]
  by_cases h9 : i < 9
  · obtain ⟨m, rfl⟩ : ∃ m, n = m + 1 := ⟨n - 1, by omega⟩
    have h9' : ((i : Nat) : Int) < 9 := by omega
    simp only [h9', decide_true, e_fd, e_nck, e_pkt, e_pkf, e_gdtt, e_gdtf, e_gdft, e_gdff, e_ift, e_iff, e_not, e_ln, e_lnT, e_cp, e_cvi, e_ex20, e_ex21, e_ex30, e_ex31, e_ex32, e_add, e_sub, e_mul, e_quo, e_rem, e_and, e_or, e_xor, e_shl, e_shr, e_eql, e_neq, e_lss, e_leq, e_gtr, e_geq, e_beq, e_bne, e_peq1, e_peq2, e_pne1, e_pne2, e_zeq1, e_zeq2, e_zne1, e_zne2, e_feq1, e_fne1, e_feq2, e_fne2, e_seq, e_sne, e_ta1, e_ta2, Nat.zero_add, Nat.add_zero, Bool.not_true, Bool.not_false]
    refine h.ln ?_
    try simp only [e_fd, e_nck, e_pkt, e_pkf, e_gdtt, e_gdtf, e_gdft, e_gdff, e_ift, e_iff, e_not, e_ln, e_lnT, e_cp, e_cvi, e_ex20, e_ex21, e_ex30, e_ex31, e_ex32, e_add, e_sub, e_mul, e_quo, e_rem, e_and, e_or, e_xor, e_shl, e_shr, e_eql, e_neq, e_lss, e_leq, e_gtr, e_geq, e_beq, e_bne, e_peq1, e_peq2, e_pne1, e_pne2, e_zeq1, e_zeq2, e_zne1, e_zne2, e_feq1, e_fne1, e_feq2, e_fne2, e_seq, e_sne, e_ta1, e_ta2, Nat.zero_add, Nat.add_zero, Bool.not_true, Bool.not_false]
    by_cases hl : i = bs.length
    · have el : (((i : Nat) : Int) == ((bs.length : Nat) : Int)) = true := by rw [hl]; simp
      simp only [el, e_fd, e_nck, e_pkt, e_pkf, e_gdtt, e_gdtf, e_gdft, e_gdff, e_ift, e_iff, e_not, e_ln, e_lnT, e_cp, e_cvi, e_ex20, e_ex21, e_ex30, e_ex31, e_ex32, e_add, e_sub, e_mul, e_quo, e_rem, e_and, e_or, e_xor, e_shl, e_shr, e_eql, e_neq, e_lss, e_leq, e_gtr, e_geq, e_beq, e_bne, e_peq1, e_peq2, e_pne1, e_pne2, e_zeq1, e_zeq2, e_zne1, e_zne2, e_feq1, e_fne1, e_feq2, e_fne2, e_seq, e_sne, e_ta1, e_ta2, Nat.zero_add, Nat.add_zero, Bool.not_true, Bool.not_false]
      rw [hl, List.drop_length] at hs
      rw [← hs] at hK
      exact hK
    · have el : (((i : Nat) : Int) == ((bs.length : Nat) : Int)) = false := by rw [beq_eq_false_iff_ne]; omega
      simp only [el, e_fd, e_nck, e_pkt, e_pkf, e_gdtt, e_gdtf, e_gdft, e_gdff, e_ift, e_iff, e_not, e_ln, e_lnT, e_cp, e_cvi, e_ex20, e_ex21, e_ex30, e_ex31, e_ex32, e_add, e_sub, e_mul, e_quo, e_rem, e_and, e_or, e_xor, e_shl, e_shr, e_eql, e_neq, e_lss, e_leq, e_gtr, e_geq, e_beq, e_bne, e_peq1, e_peq2, e_pne1, e_pne2, e_zeq1, e_zeq2, e_zne1, e_zne2, e_feq1, e_fne1, e_feq2, e_fne2, e_seq, e_sne, e_ta1, e_ta2, Nat.zero_add, Nat.add_zero, Bool.not_true, Bool.not_false]
      have hlt : i < bs.length := by omega
      have hd : bs.drop i = bs[i] :: bs.drop (i + 1) := List.drop_eq_getElem_cons hlt
      obtain ⟨b0, b1⟩ := hb bs[i] (List.getElem_mem hlt)
      obtain ⟨c, hc⟩ : ∃ c : Nat, bs[i] = (c : Int) := ⟨bs[i].toNat, by omega⟩
      have hc255 : c < 256 := by omega
      rw [hd, scanG, hc, Int.toNat_natCast] at hs
      have hq : c % 128 < 128 := Nat.mod_lt _ (by decide)
      have hal := acc_lt (i := i) ha hq
      have hp := pow_le9 (i := i + 1) (by omega)
      have hsh : c % 128 * 128 ^ i < 18446744073709551616 := by omega
      refine h.ix (i := i) hlt fun b o hF hcl => ?_
      refine hcl.ld0 rfl ?_
      try simp only [e_fd, e_nck, e_pkt, e_pkf, e_gdtt, e_gdtf, e_gdft, e_gdff, e_ift, e_iff, e_not, e_ln, e_lnT, e_cp, e_cvi, e_ex20, e_ex21, e_ex30, e_ex31, e_ex32, e_add, e_sub, e_mul, e_quo, e_rem, e_and, e_or, e_xor, e_shl, e_shr, e_eql, e_neq, e_lss, e_leq, e_gtr, e_geq, e_beq, e_bne, e_peq1, e_peq2, e_pne1, e_pne2, e_zeq1, e_zeq2, e_zne1, e_zne2, e_feq1, e_fne1, e_feq2, e_fne2, e_seq, e_sne, e_ta1, e_ta2, Nat.zero_add, Nat.add_zero, Bool.not_true, Bool.not_false]
      rw [hc, and127 hc255, u64id (n := ((c % 128 : Nat) : Int)) (by omega) (by omega), u64id (n := ((i : Nat) : Int)) (by omega) (by omega), u64id (n := 7 * ((i : Nat) : Int)) (by omega) (by omega)]
      refine ⟨by omega, ?_⟩
      rw [show (7 : Int) * ((i : Nat) : Int) = ((7 * i : Nat) : Int) by omega, shl7 (by omega) hsh, or7 ha (by omega)]
      refine h.ix (i := i) hlt fun b o hF hcl => ?_
      refine hcl.ld0 rfl ?_
      rw [hc]
      by_cases h128 : c < 128
      · have e1 : ((c : Nat) : Int) < 128 := by omega
        simp only [e1, decide_true, e_fd, e_nck, e_pkt, e_pkf, e_gdtt, e_gdtf, e_gdft, e_gdff, e_ift, e_iff, e_not, e_ln, e_lnT, e_cp, e_cvi, e_ex20, e_ex21, e_ex30, e_ex31, e_ex32, e_add, e_sub, e_mul, e_quo, e_rem, e_and, e_or, e_xor, e_shl, e_shr, e_eql, e_neq, e_lss, e_leq, e_gtr, e_geq, e_beq, e_bne, e_peq1, e_peq2, e_pne1, e_pne2, e_zeq1, e_zeq2, e_zne1, e_zne2, e_feq1, e_fne1, e_feq2, e_fne2, e_seq, e_sne, e_ta1, e_ta2, Nat.zero_add, Nat.add_zero, Bool.not_true, Bool.not_false]
        rw [if_pos e1] at hs
        refine h.ix (i := i) hlt fun b o hF hcl => ?_
        refine hcl.ld0 rfl ?_
        rw [hc]
        have hcm : c % 128 = c := Nat.mod_eq_of_lt h128
        by_cases h0 : c = 0
        · have e2 : (((c : Nat) : Int) == 0) = true := by rw [beq_iff_eq]; omega
          simp only [e2, e_fd, e_nck, e_pkt, e_pkf, e_gdtt, e_gdtf, e_gdft, e_gdff, e_ift, e_iff, e_not, e_ln, e_lnT, e_cp, e_cvi, e_ex20, e_ex21, e_ex30, e_ex31, e_ex32, e_add, e_sub, e_mul, e_quo, e_rem, e_and, e_or, e_xor, e_shl, e_shr, e_eql, e_neq, e_lss, e_leq, e_gtr, e_geq, e_beq, e_bne, e_peq1, e_peq2, e_pne1, e_pne2, e_zeq1, e_zeq2, e_zne1, e_zne2, e_feq1, e_fne1, e_feq2, e_fne2, e_seq, e_sne, e_ta1, e_ta2, Nat.zero_add, Nat.add_zero, Bool.not_true, Bool.not_false]
          by_cases hi0 : 0 < i
          · have e3 : (0 : Int) < ((i : Nat) : Int) := by omega
            simp only [e3, decide_true, e_fd, e_nck, e_pkt, e_pkf, e_gdtt, e_gdtf, e_gdft, e_gdff, e_ift, e_iff, e_not, e_ln, e_lnT, e_cp, e_cvi, e_ex20, e_ex21, e_ex30, e_ex31, e_ex32, e_add, e_sub, e_mul, e_quo, e_rem, e_and, e_or, e_xor, e_shl, e_shr, e_eql, e_neq, e_lss, e_leq, e_gtr, e_geq, e_beq, e_bne, e_peq1, e_peq2, e_pne1, e_pne2, e_zeq1, e_zeq2, e_zne1, e_zne2, e_feq1, e_fne1, e_feq2, e_fne2, e_seq, e_sne, e_ta1, e_ta2, Nat.zero_add, Nat.add_zero, Bool.not_true, Bool.not_false]
            rw [if_pos ⟨by omega, hi0⟩] at hs
            rw [← hs] at hK
            exact hK
          · have e3 : ¬ (0 : Int) < ((i : Nat) : Int) := by omega
            simp only [e3, decide_false, e_fd, e_nck, e_pkt, e_pkf, e_gdtt, e_gdtf, e_gdft, e_gdff, e_ift, e_iff, e_not, e_ln, e_lnT, e_cp, e_cvi, e_ex20, e_ex21, e_ex30, e_ex31, e_ex32, e_add, e_sub, e_mul, e_quo, e_rem, e_and, e_or, e_xor, e_shl, e_shr, e_eql, e_neq, e_lss, e_leq, e_gtr, e_geq, e_beq, e_bne, e_peq1, e_peq2, e_pne1, e_pne2, e_zeq1, e_zeq2, e_zne1, e_zne2, e_feq1, e_fne1, e_feq2, e_fne2, e_seq, e_sne, e_ta1, e_ta2, Nat.zero_add, Nat.add_zero, Bool.not_true, Bool.not_false]
            rw [if_neg (fun q => hi0 q.2)] at hs
            rw [← hs] at hK
            rw [wrap64_id (by omega) (by omega), inc i (by omega)]
            exact hK
        · have e2 : (((c : Nat) : Int) == 0) = false := by rw [beq_eq_false_iff_ne]; omega
          simp only [e2, e_fd, e_nck, e_pkt, e_pkf, e_gdtt, e_gdtf, e_gdft, e_gdff, e_ift, e_iff, e_not, e_ln, e_lnT, e_cp, e_cvi, e_ex20, e_ex21, e_ex30, e_ex31, e_ex32, e_add, e_sub, e_mul, e_quo, e_rem, e_and, e_or, e_xor, e_shl, e_shr, e_eql, e_neq, e_lss, e_leq, e_gtr, e_geq, e_beq, e_bne, e_peq1, e_peq2, e_pne1, e_pne2, e_zeq1, e_zeq2, e_zne1, e_zne2, e_feq1, e_fne1, e_feq2, e_fne2, e_seq, e_sne, e_ta1, e_ta2, Nat.zero_add, Nat.add_zero, Bool.not_true, Bool.not_false]
          rw [if_neg (fun q => h0 (by have := q.1; omega))] at hs
          rw [← hs] at hK
          rw [wrap64_id (by omega) (by omega), inc i (by omega)]
          exact hK
      · have e1 : ¬ ((c : Nat) : Int) < 128 := by omega
        simp only [e1, decide_false, e_fd, e_nck, e_pkt, e_pkf, e_gdtt, e_gdtf, e_gdft, e_gdff, e_ift, e_iff, e_not, e_ln, e_lnT, e_cp, e_cvi, e_ex20, e_ex21, e_ex30, e_ex31, e_ex32, e_add, e_sub, e_mul, e_quo, e_rem, e_and, e_or, e_xor, e_shl, e_shr, e_eql, e_neq, e_lss, e_leq, e_gtr, e_geq, e_beq, e_bne, e_peq1, e_peq2, e_pne1, e_pne2, e_zeq1, e_zeq2, e_zne1, e_zne2, e_feq1, e_fne1, e_feq2, e_fne2, e_seq, e_sne, e_ta1, e_ta2, Nat.zero_add, Nat.add_zero, Bool.not_true, Bool.not_false]
        rw [if_neg e1] at hs
        rw [inc i (by omega)]
        exact ⟨m, by omega, trivial, i + 1, _, by omega, hal, rfl, by omega, hs⟩
  · have h9' : ¬ ((i : Nat) : Int) < 9 := by omega
    simp only [h9', decide_false, e_fd, e_nck, e_pkt, e_pkf, e_gdtt, e_gdtf, e_gdft, e_gdff, e_ift, e_iff, e_not, e_ln, e_lnT, e_cp, e_cvi, e_ex20, e_ex21, e_ex30, e_ex31, e_ex32, e_add, e_sub, e_mul, e_quo, e_rem, e_and, e_or, e_xor, e_shl, e_shr, e_eql, e_neq, e_lss, e_leq, e_gtr, e_geq, e_beq, e_bne, e_peq1, e_peq2, e_pne1, e_pne2, e_zeq1, e_zeq2, e_zne1, e_zne2, e_feq1, e_fne1, e_feq2, e_fne2, e_seq, e_sne, e_ta1, e_ta2, Nat.zero_add, Nat.add_zero, Bool.not_true, Bool.not_false]
    unfold s157_p1
    obtain rfl : n = 0 := by omega
    rw [scanG] at hs
    rw [← hs] at hK
    exact hK
end
end Go.Proofs.Qxb6500896aGreat
