import Derived.Test.Qxb6500894aDoorE7
import Derived.Test.Qxb6500894aDoorShVs
namespace Go.Proofs.Qxb6500894aDoor
open Go.Sh Go.RowKit
set_option linter.unusedVariables false
set_option linter.unusedSimpArgs false

abbrev U8 (n : Int) : Value := .int .u8 n
/-! ### numbers -/
theorem wrapu8 (n : Int) : IntKind.u8.wrap n = n % 256 := by
  have e : (2 ^ IntKind.u8.bits : Int) = 256 := by decide
  unfold IntKind.wrap
  rw [e]
  simp [IntKind.signed]
theorem wrapu64 (n : Int) : IntKind.u64.wrap n = n % 18446744073709551616 := by
  have e : (2 ^ IntKind.u64.bits : Int) = 18446744073709551616 := by decide
  unfold IntKind.wrap
  rw [e]
  simp [IntKind.signed]
theorem of_q {k n : Nat} (hn : n < 2 ^ k) : (BitVec.ofInt k (n : Int)).toNat = n := by
  rw [BitVec.ofInt_natCast, BitVec.toNat_ofNat, Nat.mod_eq_of_lt hn]
theorem or_nat {i A B : Nat} (hd : A % 2 ^ i = 0) (hB : B < 2 ^ i) : A ||| B = A + B := by
  have : A = 2 ^ i * (A / 2 ^ i) := by
    have := Nat.div_add_mod A (2 ^ i)
    rw [hd, Nat.add_zero] at this
    exact this.symm
  rw [this, Nat.two_pow_add_eq_or_of_lt hB]
theorem or8 {x : Nat} : IntKind.u8.wrap (BitVec.ofInt IntKind.u8.bits ((x % 256 : Nat) : Int) ||| BitVec.ofInt IntKind.u8.bits 128).toNat = ((x % 128 + 128 : Nat) : Int) := by
  have key : ∀ n : Nat, n < 256 → n ||| 128 = n % 128 + 128 := by decide +kernel
  have e8 : IntKind.u8.bits = 8 := rfl
  rw [e8, BitVec.toNat_or, of_q (by omega), show (128 : Int) = ((128 : Nat) : Int) from rfl, of_q (by decide), key _ (by omega), wrapu8]
  omega
theorem and127 {x : Nat} (hx : x < 256) : IntKind.u8.wrap (BitVec.ofInt IntKind.u8.bits ((x : Nat) : Int) &&& BitVec.ofInt IntKind.u8.bits 127).toNat = ((x % 128 : Nat) : Int) := by
  have e8 : IntKind.u8.bits = 8 := rfl
  rw [e8, BitVec.toNat_and, of_q (by omega), show (127 : Int) = ((127 : Nat) : Int) from rfl, of_q (by decide), show (127 : Nat) = 2 ^ 7 - 1 from rfl, Nat.and_two_pow_sub_one_eq_mod, wrapu8]
  omega
/-- the octets of a number, seven bits each -/
def uvF : Nat → Nat → List Int
  | 0, _ => []
  | f + 1, x => if x < 128 then [(x : Int)] else ((x % 128 + 128 : Nat) : Int) :: uvF f (x / 128)
def uv (x : Nat) : List Int := uvF 10 x
theorem uvF_small {f x : Nat} (h : x < 128) : uvF (f + 1) x = [(x : Int)] := by unfold uvF; rw [if_pos h]
theorem uvF_big {f x : Nat} (h : ¬ x < 128) : uvF (f + 1) x = ((x % 128 + 128 : Nat) : Int) :: uvF f (x / 128) := by rw [uvF, if_neg h]
theorem uvF_len : ∀ {f x : Nat}, (uvF f x).length ≤ f
  | 0, _ => Nat.le_refl _
  | f + 1, x => by
    by_cases h : x < 128
    · rw [uvF_small h]; simp
    · rw [uvF_big h, List.length_cons]; have := uvF_len (f := f) (x := x / 128); omega
theorem uvF_by : ∀ {f x : Nat}, ∀ y ∈ uvF f x, 0 ≤ y ∧ y ≤ 255
  | 0, _, y, hy => by cases hy
  | f + 1, x, y, hy => by
    by_cases h : x < 128
    · rw [uvF_small h] at hy; simp at hy; omega
    · rw [uvF_big h] at hy
      rcases List.mem_cons.1 hy with q | q
      · omega
      · exact uvF_by y q
theorem uvF_pos {f x : Nat} : 0 < (uvF (f + 1) x).length := by
  by_cases h : x < 128
  · rw [uvF_small h]; simp
  · rw [uvF_big h]; simp

def u1 (x : Int) : List Value := [U8 x]
theorem u1_len (x : Int) : (u1 x).length = 1 := rfl
theorem rows_u1 (xs : List Int) : rows u1 xs = xs.map U8 := by
  induction xs with
  | nil => rfl
  | cons x xs ih => rw [rows_cons, ih]; rfl
section
variable {W w w' : World} {v t0 : Value} {ob : Option Nat} {xs ys : List Int} {K : Value → World → Prop} {x f : Nat}
abbrev AppK (w : World) (ob : Option Nat) (ys : List Int) (K : Value → World → Prop) : Prop := ∀ w' t' ob', Sl u1 1 w' 5 ob' t' ys → Kp (fun b => ob = some b) w w' → (ob' = ob ∨ ∃ b, ob' = some b ∧ w.heap.size ≤ b) → K t' w'
theorem app_o1 {a : Int} (h : Sl u1 1 w 5 ob v ys) (hl : ys.length ≤ 4398046511104) (hK : AppK w ob (ys ++ [a]) K) : bsq 5 [(.int .u8 0)] 1 [(some (0, 1), U8 a)] (fun t w => apq 5 [(.int .u8 0)] 1 v t K w) w :=
  h.app u1_len rfl a rfl (by omega) (by omega) rfl hK
theorem shr7 {x : Nat} : ((x : Nat) : Int).fdiv (2 ^ (min ((7 : Int)).toNat IntKind.u64.bits)) = ((x / 128 : Nat) : Int) := by
  rw [show (2 ^ (min ((7 : Int)).toNat IntKind.u64.bits) : Int) = 128 from by decide, Int.fdiv_eq_ediv_of_nonneg _ (by decide)]
  omega
theorem appU_ok (h : Sl u1 1 w 5 ob v ys) (hl : ys.length ≤ 1000000000) (hx : x < 18446744073709551616) (hK : AppK w ob (ys ++ uv x) K) : cl Tryd.prog 50 #[v, .int .u64 (x : Nat)] K w := by
  apply c50
  unfold s50_p4 s50_p3
  have p10 : (128 : Nat) ^ 10 = 1180591620717411303424 := by decide
  refine ⟨fun n l w' => ∃ (x' : Nat) (v' : Value) (ob' : Option Nat) (zs : List Int), n < 10 ∧ x' < 128 ^ (n + 1) ∧ x' < 18446744073709551616 ∧ l = [v', .int .u64 (x' : Nat)] ∧ Sl u1 1 w' 5 ob' v' (ys ++ zs) ∧ zs.length ≤ 10 ∧ zs ++ uvF (n + 1) x' = uv x ∧ Kp (fun b => ob = some b) w w' ∧ (ob' = ob ∨ ∃ b, ob' = some b ∧ w.heap.size ≤ b),
    9, ⟨x, v, ob, [], by decide, by omega, hx, rfl, by simpa using h, by simp, rfl, Kp.refl _ _, .inl rfl⟩, ?_⟩
  rintro f l w1 ⟨x', v', ob', zs, hf, hxf, hx', rfl, s1, hz, he, hk1, ho1⟩
  have sz := hk1.size
  have hll : (ys ++ zs).length ≤ 4398046511104 := by rw [List.length_append]; omega
  have join : ∀ {w2 : World} {t2 : Value} {ob2 : Option Nat}, Kp (fun b => ob' = some b) w1 w2 → (ob2 = ob' ∨ ∃ b, ob2 = some b ∧ w1.heap.size ≤ b) → Kp (fun b => ob = some b) w w2 ∧ (ob2 = ob ∨ ∃ b, ob2 = some b ∧ w.heap.size ≤ b) := by
    intro w2 t2 ob2 hk2 ho2
    constructor
    · refine hk1.then hk2 fun b hb q => ?_
      rcases ho1 with e | ⟨c, e, hc⟩
      · rw [← e]; exact q
      · rw [e] at q; cases q; omega
    · rcases ho2 with e | ⟨c, e, hc⟩
      · rw [e]; exact ho1
      · exact .inr ⟨c, e, by omega⟩
  rw [s50_p3_Fe]
  unfold s50_p2
  try simp only [e_fd, e_nck, e_pkt, e_pkf, e_gdtt, e_gdtf, e_gdft, e_gdff, e_ift, e_iff, e_not, e_ln, e_lnT, e_cp, e_cvi, e_ex20, e_ex21, e_ex30, e_ex31, e_ex32, e_add, e_sub, e_mul, e_quo, e_rem, e_and, e_or, e_xor, e_shl, e_shr, e_eql, e_neq, e_lss, e_leq, e_gtr, e_geq, e_beq, e_bne, e_peq1, e_peq2, e_pne1, e_pne2, e_zeq1, e_zeq2, e_zne1, e_zne2, e_feq1, e_fne1, e_feq2, e_fne2, e_seq, e_sne, e_ta1, e_ta2, Nat.zero_add, Nat.add_zero, Bool.not_true, Bool.not_false]
  by_cases hb : x' < 128
  · have hb' : ¬ (128 : Int) ≤ ((x' : Nat) : Int) := by omega
    simp only [hb', decide_false, e_fd, e_nck, e_pkt, e_pkf, e_gdtt, e_gdtf, e_gdft, e_gdff, e_ift, e_iff, e_not, e_ln, e_lnT, e_cp, e_cvi, e_ex20, e_ex21, e_ex30, e_ex31, e_ex32, e_add, e_sub, e_mul, e_quo, e_rem, e_and, e_or, e_xor, e_shl, e_shr, e_eql, e_neq, e_lss, e_leq, e_gtr, e_geq, e_beq, e_bne, e_peq1, e_peq2, e_pne1, e_pne2, e_zeq1, e_zeq2, e_zne1, e_zne2, e_feq1, e_fne1, e_feq2, e_fne2, e_seq, e_sne, e_ta1, e_ta2, Nat.zero_add, Nat.add_zero, Bool.not_true, Bool.not_false]
    unfold s50_p1
    try simp only [e_fd, e_nck, e_pkt, e_pkf, e_gdtt, e_gdtf, e_gdft, e_gdff, e_ift, e_iff, e_not, e_ln, e_lnT, e_cp, e_cvi, e_ex20, e_ex21, e_ex30, e_ex31, e_ex32, e_add, e_sub, e_mul, e_quo, e_rem, e_and, e_or, e_xor, e_shl, e_shr, e_eql, e_neq, e_lss, e_leq, e_gtr, e_geq, e_beq, e_bne, e_peq1, e_peq2, e_pne1, e_pne2, e_zeq1, e_zeq2, e_zne1, e_zne2, e_feq1, e_fne1, e_feq2, e_fne2, e_seq, e_sne, e_ta1, e_ta2, Nat.zero_add, Nat.add_zero, Bool.not_true, Bool.not_false]
    rw [wrapu8, show ((x' : Nat) : Int) % 256 = ((x' : Nat) : Int) by omega]
    refine app_o1 s1 hll fun w2 t2 ob2 s2 hk2 ho2 => ?_
    rw [uvF_small hb] at he
    rw [List.append_assoc, he] at s2
    obtain ⟨k, o⟩ := join (t2 := t2) hk2 ho2
    exact hK w2 t2 ob2 s2 k o
  · have hb' : (128 : Int) ≤ ((x' : Nat) : Int) := by omega
    simp only [hb', decide_true, e_fd, e_nck, e_pkt, e_pkf, e_gdtt, e_gdtf, e_gdft, e_gdff, e_ift, e_iff, e_not, e_ln, e_lnT, e_cp, e_cvi, e_ex20, e_ex21, e_ex30, e_ex31, e_ex32, e_add, e_sub, e_mul, e_quo, e_rem, e_and, e_or, e_xor, e_shl, e_shr, e_eql, e_neq, e_lss, e_leq, e_gtr, e_geq, e_beq, e_bne, e_peq1, e_peq2, e_pne1, e_pne2, e_zeq1, e_zeq2, e_zne1, e_zne2, e_feq1, e_fne1, e_feq2, e_fne2, e_seq, e_sne, e_ta1, e_ta2, Nat.zero_add, Nat.add_zero, Bool.not_true, Bool.not_false]
    rw [wrapu8 ((x' : Nat) : Int), show ((x' : Nat) : Int) % 256 = ((x' % 256 : Nat) : Int) by omega, or8]
    refine app_o1 s1 hll fun w2 t2 ob2 s2 hk2 ho2 => ?_
    try simp only [e_fd, e_nck, e_pkt, e_pkf, e_gdtt, e_gdtf, e_gdft, e_gdff, e_ift, e_iff, e_not, e_ln, e_lnT, e_cp, e_cvi, e_ex20, e_ex21, e_ex30, e_ex31, e_ex32, e_add, e_sub, e_mul, e_quo, e_rem, e_and, e_or, e_xor, e_shl, e_shr, e_eql, e_neq, e_lss, e_leq, e_gtr, e_geq, e_beq, e_bne, e_peq1, e_peq2, e_pne1, e_pne2, e_zeq1, e_zeq2, e_zne1, e_zne2, e_feq1, e_fne1, e_feq2, e_fne2, e_seq, e_sne, e_ta1, e_ta2, Nat.zero_add, Nat.add_zero, Bool.not_true, Bool.not_false]
    refine ⟨by decide, ?_⟩
    rw [shr7]
    obtain ⟨k, o⟩ := join (t2 := t2) hk2 ho2
    have hf0 : 0 < f := by
      rcases Nat.eq_zero_or_pos f with q | q
      · subst q; rw [show (128 : Nat) ^ (0 + 1) = 128 from rfl] at hxf; omega
      · exact q
    obtain ⟨f', rfl⟩ : ∃ f', f = f' + 1 := ⟨f - 1, by omega⟩
    rw [uvF_big hb] at he
    refine ⟨f', by omega, x' / 128, t2, ob2, zs ++ [((x' % 128 + 128 : Nat) : Int)], by omega, ?_, by omega, rfl, by rw [← List.append_assoc]; exact s2, ?_, by rw [List.append_assoc]; exact he, k, o⟩
    · rw [Nat.pow_succ] at hxf
      exact Nat.div_lt_of_lt_mul (by rw [Nat.mul_comm]; exact hxf)
    · have h1 := congrArg List.length he
      rw [List.length_append, List.length_cons] at h1
      have h2 : (uv x).length ≤ 10 := uvF_len
      rw [List.length_append, List.length_singleton]
      omega
end
end Go.Proofs.Qxb6500894aDoor
