import Derived.Test.Qxb6500898aV4
namespace Go.Proofs.Qxb6500898a
open Go.Sh Go.RowKit
set_option linter.unusedVariables false
set_option linter.unusedSimpArgs false

/-! ### rotation -/
theorem turn_mod {k n : Int} (hn : 0 < n) : (if k.tmod n < 0 then k.tmod n + n else k.tmod n) = k % n := by
  have h1 := Int.tmod_add_mul_tdiv k n
  have h2 := Int.tmod_lt_of_pos k hn
  have h3 := Int.lt_tmod_of_pos k hn
  generalize k.tmod n = r at *
  have e : k % n = r % n := by rw [← h1, Int.add_mul_emod_self_left]
  rw [e]
  split
  · rename_i h
    have : r % n = (r + n) % n := by rw [Int.add_emod_right]
    rw [this, Int.emod_eq_of_lt (by omega) (by omega)]
  · rw [Int.emod_eq_of_lt (by omega) (by omega)]
def cyF (p : Nat) (x : Int) : Int := (2 : Int) ^ (8 - p) * (x % (2 : Int) ^ p)
theorem p_cases {p : Nat} (h1 : 1 ≤ p) (h2 : p ≤ 7) : p = 1 ∨ p = 2 ∨ p = 3 ∨ p = 4 ∨ p = 5 ∨ p = 6 ∨ p = 7 := by omega
theorem cy_shl {p : Nat} {x : Int} (h1 : 1 ≤ p) (h2 : p ≤ 7) : IntKind.u8.wrap (x * 2 ^ (min ((((8 - p : Nat) : Int)).toNat) IntKind.u8.bits)) = cyF p x := by
  rw [wrapu8, Int.toNat_natCast]
  have eb : IntKind.u8.bits = 8 := rfl
  rw [eb, Nat.min_eq_left (by omega)]
  rcases p_cases h1 h2 with rfl | rfl | rfl | rfl | rfl | rfl | rfl <;> (simp only [cyF, Nat.reduceSub, Int.reducePow]; omega)
theorem sh_shr {p : Nat} {x : Int} (h1 : 1 ≤ p) (h2 : p ≤ 7) (hx : 0 ≤ x) : x.fdiv (2 ^ (min (((p : Nat) : Int)).toNat IntKind.u8.bits)) = x / 2 ^ p := by
  rw [Int.toNat_natCast]
  have eb : IntKind.u8.bits = 8 := rfl
  rw [eb, Nat.min_eq_left (by omega), Int.fdiv_eq_ediv_of_nonneg _ (Int.le_of_lt (Int.pow_pos (by decide)))]
theorem or8 (i : Nat) {A B M : Int} (hM : ((2 ^ i : Nat) : Int) = M) (hA : 0 ≤ A) (hd : A % M = 0) (hB : 0 ≤ B) (hBM : B < M) (hs : A + B < 256) :
    IntKind.u8.wrap (BitVec.ofInt IntKind.u8.bits A ||| BitVec.ofInt IntKind.u8.bits B).toNat = A + B := by
  rw [or_bv (k := IntKind.u8.bits) hM hA hd hB hBM (by have e : ((2 ^ IntKind.u8.bits : Nat) : Int) = 256 := (by decide); rw [e]; exact hs), wrapu8]; omega
theorem cy_or {p : Nat} {x y : Int} (h1 : 1 ≤ p) (h2 : p ≤ 7) (hx : 0 ≤ x ∧ x ≤ 255) (hy : 0 ≤ y ∧ y ≤ 255) :
    IntKind.u8.wrap (BitVec.ofInt IntKind.u8.bits (cyF p x) ||| BitVec.ofInt IntKind.u8.bits (y / 2 ^ p)).toNat = cyF p x + y / 2 ^ p := by
  rcases p_cases h1 h2 with rfl | rfl | rfl | rfl | rfl | rfl | rfl
  · simp only [cyF, Nat.reduceSub, Int.reducePow]; exact or8 7 rfl (by omega) (by omega) (by omega) (by omega) (by omega)
  · simp only [cyF, Nat.reduceSub, Int.reducePow]; exact or8 6 rfl (by omega) (by omega) (by omega) (by omega) (by omega)
  · simp only [cyF, Nat.reduceSub, Int.reducePow]; exact or8 5 rfl (by omega) (by omega) (by omega) (by omega) (by omega)
  · simp only [cyF, Nat.reduceSub, Int.reducePow]; exact or8 4 rfl (by omega) (by omega) (by omega) (by omega) (by omega)
  · simp only [cyF, Nat.reduceSub, Int.reducePow]; exact or8 3 rfl (by omega) (by omega) (by omega) (by omega) (by omega)
  · simp only [cyF, Nat.reduceSub, Int.reducePow]; exact or8 2 rfl (by omega) (by omega) (by omega) (by omega) (by omega)
  · simp only [cyF, Nat.reduceSub, Int.reducePow]; exact or8 1 rfl (by omega) (by omega) (by omega) (by omega) (by omega)
theorem cy_by {p : Nat} {x y : Int} (h1 : 1 ≤ p) (h2 : p ≤ 7) (hx : 0 ≤ x ∧ x ≤ 255) (hy : 0 ≤ y ∧ y ≤ 255) : 0 ≤ cyF p x + y / 2 ^ p ∧ cyF p x + y / 2 ^ p ≤ 255 := by
  rcases p_cases h1 h2 with rfl | rfl | rfl | rfl | rfl | rfl | rfl <;> (simp only [cyF, Nat.reduceSub, Int.reducePow]; omega)
def prv (xs : List Int) (i : Nat) : Int := if i = 0 then g xs (xs.length - 1) else g xs (i - 1)
/-- the first i octets are shifted right by p bits -/
def shP (p : Nat) (xs : List Int) (i : Nat) : List Int := (List.range xs.length).map (fun j => if j < i then cyF p (prv xs j) + g xs j / 2 ^ p else g xs j)
theorem shP_len (p : Nat) (xs : List Int) (i : Nat) : (shP p xs i).length = xs.length := by simp [shP]
section
variable {w w' : World} {v d : Value} {ob : Option Nat} {o : Nat} {xs ys zs : List Int} {pre post : List Value} {K : Value → World → Prop} {k : World → Prop} {i p : Nat} {z : Int} {C : Nat → Prop}
theorem shP_get {j : Nat} (hj : j < xs.length) (hj' : j < (shP p xs i).length) : (shP p xs i)[j] = if j < i then cyF p (prv xs j) + g xs j / 2 ^ p else g xs j := by simp [shP]
theorem shP_0 : shP p xs 0 = xs := by
  apply List.ext_getElem (shP_len p xs 0)
  intro j h1 h2
  rw [shP_get h2 h1, if_neg (by omega), g_get h2]
theorem shP_step (h1 : i < xs.length) : (shP p xs i).set i (cyF p (prv xs i) + g xs i / 2 ^ p) = shP p xs (i + 1) := by
  apply List.ext_getElem (by rw [List.length_set, shP_len, shP_len])
  intro j h2 h3
  rw [shP_len] at h3
  rw [shP_get h3]
  by_cases e : i = j
  · subst e; rw [List.getElem_set_self, if_pos (by omega)]
  · rw [List.getElem_set_ne e, shP_get h3]
    by_cases c : j < i
    · rw [if_pos c, if_pos (by omega)]
    · rw [if_neg c, if_neg (by omega)]
/-- whole octets -/
def rotB (xs : List Int) (m : Nat) : List Int := (xs.reverse.take m).reverse ++ (xs.reverse.drop m).reverse
/-- the string turned right by k bits, k below its number of bits -/
def rotR (xs : List Int) (k : Nat) : List Int := if k % 8 = 0 then rotB xs (k / 8) else shP (k % 8) (rotB xs (k / 8)) xs.length
theorem rotB_len {m : Nat} : (rotB xs m).length = xs.length := by unfold rotB; rw [List.length_append, List.length_reverse, List.length_reverse, ← List.length_append, List.take_append_drop, List.length_reverse]
theorem rotB_0 : rotB xs 0 = xs := by unfold rotB; simp
theorem turns_ok {q n : Int} (hn : 0 < n) (hn2 : n ≤ 8000000000000) (hK : K (I (q % n)) w) : cl Try.prog 88 #[I q, I n] K w := by
  apply c88
  unfold s88_p2
  try simp only [e_fd, e_nck, e_pkt, e_pkf, e_gdtt, e_gdtf, e_gdft, e_gdff, e_ift, e_iff, e_not, e_ln, e_lnT, e_cp, e_cvi, e_ex20, e_ex21, e_ex30, e_ex31, e_ex32, e_add, e_sub, e_mul, e_quo, e_rem, e_and, e_or, e_xor, e_shl, e_shr, e_eql, e_neq, e_lss, e_leq, e_gtr, e_geq, e_beq, e_bne, e_peq1, e_peq2, e_pne1, e_pne2, e_zeq1, e_zeq2, e_zne1, e_zne2, e_feq1, e_fne1, e_feq2, e_fne2, e_seq, e_sne, e_ta1, e_ta2, Nat.zero_add, Nat.add_zero, Bool.not_true, Bool.not_false]
  refine ⟨by omega, ?_⟩
  have e := turn_mod (k := q) hn
  have h2 := Int.tmod_lt_of_pos q hn
  have h3 := Int.lt_tmod_of_pos q hn
  unfold s88_p1
  by_cases h : q.tmod n < 0
  · simp only [h, decide_true, e_fd, e_nck, e_pkt, e_pkf, e_gdtt, e_gdtf, e_gdft, e_gdff, e_ift, e_iff, e_not, e_ln, e_lnT, e_cp, e_cvi, e_ex20, e_ex21, e_ex30, e_ex31, e_ex32, e_add, e_sub, e_mul, e_quo, e_rem, e_and, e_or, e_xor, e_shl, e_shr, e_eql, e_neq, e_lss, e_leq, e_gtr, e_geq, e_beq, e_bne, e_peq1, e_peq2, e_pne1, e_pne2, e_zeq1, e_zeq2, e_zne1, e_zne2, e_feq1, e_fne1, e_feq2, e_fne2, e_seq, e_sne, e_ta1, e_ta2, Nat.zero_add, Nat.add_zero, Bool.not_true, Bool.not_false]
    rw [if_pos h] at e
    rw [wrap64_id (by omega) (by omega), e]; exact hK
  · simp only [h, decide_false, e_fd, e_nck, e_pkt, e_pkf, e_gdtt, e_gdtf, e_gdft, e_gdff, e_ift, e_iff, e_not, e_ln, e_lnT, e_cp, e_cvi, e_ex20, e_ex21, e_ex30, e_ex31, e_ex32, e_add, e_sub, e_mul, e_quo, e_rem, e_and, e_or, e_xor, e_shl, e_shr, e_eql, e_neq, e_lss, e_leq, e_gtr, e_geq, e_beq, e_bne, e_peq1, e_peq2, e_pne1, e_pne2, e_zeq1, e_zeq2, e_zne1, e_zne2, e_feq1, e_fne1, e_feq2, e_fne2, e_seq, e_sne, e_ta1, e_ta2, Nat.zero_add, Nat.add_zero, Bool.not_true, Bool.not_false]
    rw [if_neg h] at e
    rw [e]; exact hK
theorem shift_ok (h : Mv w v ob o xs pre post) (h0 : 0 < xs.length) (h1 : 1 ≤ p) (h2 : p ≤ 7) (hK : ∀ w', Mv w' v ob o (shP p xs xs.length) pre post → Kp (fun k => ob = some k) w w' → w'.heap.size = w.heap.size → K (.tuple #[]) w') : s39_p3 K v (.int .u64 (p : Nat)) w := by
  have hl := h.len
  have gb : ∀ j, 0 ≤ g xs j ∧ g xs j ≤ 255 := h.bs.gb
  have pb : ∀ j, 0 ≤ prv xs j ∧ prv xs j ≤ 255 := fun j => by unfold prv; split <;> exact gb _
  have e8 : IntKind.u64.wrap (8 - ((p : Nat) : Int)) = ((8 - p : Nat) : Int) := by rw [wrapu64]; omega
  unfold s39_p3
  refine h.ln ?_
  try simp only [e_fd, e_nck, e_pkt, e_pkf, e_gdtt, e_gdtf, e_gdft, e_gdff, e_ift, e_iff, e_not, e_ln, e_lnT, e_cp, e_cvi, e_ex20, e_ex21, e_ex30, e_ex31, e_ex32, e_add, e_sub, e_mul, e_quo, e_rem, e_and, e_or, e_xor, e_shl, e_shr, e_eql, e_neq, e_lss, e_leq, e_gtr, e_geq, e_beq, e_bne, e_peq1, e_peq2, e_pne1, e_pne2, e_zeq1, e_zeq2, e_zne1, e_zne2, e_feq1, e_fne1, e_feq2, e_fne2, e_seq, e_sne, e_ta1, e_ta2, Nat.zero_add, Nat.add_zero, Bool.not_true, Bool.not_false]
  rw [wrap64_id (by omega) (by omega)]
  refine h.get (i := xs.length - 1) (by omega) (by omega) ?_
  try simp only [e_fd, e_nck, e_pkt, e_pkf, e_gdtt, e_gdtf, e_gdft, e_gdff, e_ift, e_iff, e_not, e_ln, e_lnT, e_cp, e_cvi, e_ex20, e_ex21, e_ex30, e_ex31, e_ex32, e_add, e_sub, e_mul, e_quo, e_rem, e_and, e_or, e_xor, e_shl, e_shr, e_eql, e_neq, e_lss, e_leq, e_gtr, e_geq, e_beq, e_bne, e_peq1, e_peq2, e_pne1, e_pne2, e_zeq1, e_zeq2, e_zne1, e_zne2, e_feq1, e_fne1, e_feq2, e_fne2, e_seq, e_sne, e_ta1, e_ta2, Nat.zero_add, Nat.add_zero, Bool.not_true, Bool.not_false]
  rw [e8]
  refine ⟨by omega, ?_⟩
  rw [cy_shl h1 h2]
  refine h.ln ?_
  have hp0 : xs[xs.length - 1] = prv xs 0 := by unfold prv; rw [if_pos rfl, g_get]
  rw [hp0]
  unfold s39_p2
  refine ⟨fun n l w' => ∃ i : Nat, n + i = xs.length ∧ l = [v, .int .u64 (p : Nat), .int .u8 (cyF p (prv xs i)), v, I xs.length, I (i : Nat)] ∧ Mv w' v ob o (shP p xs i) pre post ∧ Kp (fun k => ob = some k) w w' ∧ w'.heap.size = w.heap.size,
    xs.length, ⟨0, rfl, rfl, by rw [shP_0]; exact h, Kp.refl _ _, rfl⟩, ?_⟩
  rintro n l w1 ⟨i, hn, rfl, m1, hk1, hz1⟩
  rw [s39_p2_Fe]
  unfold s39_p1
  try simp only [e_fd, e_nck, e_pkt, e_pkf, e_gdtt, e_gdtf, e_gdft, e_gdff, e_ift, e_iff, e_not, e_ln, e_lnT, e_cp, e_cvi, e_ex20, e_ex21, e_ex30, e_ex31, e_ex32, e_add, e_sub, e_mul, e_quo, e_rem, e_and, e_or, e_xor, e_shl, e_shr, e_eql, e_neq, e_lss, e_leq, e_gtr, e_geq, e_beq, e_bne, e_peq1, e_peq2, e_pne1, e_pne2, e_zeq1, e_zeq2, e_zne1, e_zne2, e_feq1, e_fne1, e_feq2, e_fne2, e_seq, e_sne, e_ta1, e_ta2, Nat.zero_add, Nat.add_zero, Bool.not_true, Bool.not_false]
  by_cases hlt : i < xs.length
  · have hlt' : ((i : Nat) : Int) < ((xs.length : Nat) : Int) := by omega
    simp only [hlt', decide_true, e_fd, e_nck, e_pkt, e_pkf, e_gdtt, e_gdtf, e_gdft, e_gdff, e_ift, e_iff, e_not, e_ln, e_lnT, e_cp, e_cvi, e_ex20, e_ex21, e_ex30, e_ex31, e_ex32, e_add, e_sub, e_mul, e_quo, e_rem, e_and, e_or, e_xor, e_shl, e_shr, e_eql, e_neq, e_lss, e_leq, e_gtr, e_geq, e_beq, e_bne, e_peq1, e_peq2, e_pne1, e_pne2, e_zeq1, e_zeq2, e_zne1, e_zne2, e_feq1, e_fne1, e_feq2, e_fne2, e_seq, e_sne, e_ta1, e_ta2, Nat.zero_add, Nat.add_zero, Bool.not_true, Bool.not_false]
    have hsl := shP_len p xs i
    refine m1.get (i := i) (by omega) rfl ?_
    rw [shP_get hlt, if_neg (by omega)]
    try simp only [e_fd, e_nck, e_pkt, e_pkf, e_gdtt, e_gdtf, e_gdft, e_gdff, e_ift, e_iff, e_not, e_ln, e_lnT, e_cp, e_cvi, e_ex20, e_ex21, e_ex30, e_ex31, e_ex32, e_add, e_sub, e_mul, e_quo, e_rem, e_and, e_or, e_xor, e_shl, e_shr, e_eql, e_neq, e_lss, e_leq, e_gtr, e_geq, e_beq, e_bne, e_peq1, e_peq2, e_pne1, e_pne2, e_zeq1, e_zeq2, e_zne1, e_zne2, e_feq1, e_fne1, e_feq2, e_fne2, e_seq, e_sne, e_ta1, e_ta2, Nat.zero_add, Nat.add_zero, Bool.not_true, Bool.not_false]
    refine ⟨by omega, ?_⟩
    rw [sh_shr h1 h2 (gb i).1, cy_or h1 h2 (pb i) (gb i)]
    refine m1.ix (i := i) (by omega) rfl fun q _ hst => ?_
    refine hst m1 rfl (cy_by h1 h2 (pb i) (gb i)) fun w2 m2 hk2 hz2 => ?_
    rw [shP_step hlt] at m2
    try simp only [e_fd, e_nck, e_pkt, e_pkf, e_gdtt, e_gdtf, e_gdft, e_gdff, e_ift, e_iff, e_not, e_ln, e_lnT, e_cp, e_cvi, e_ex20, e_ex21, e_ex30, e_ex31, e_ex32, e_add, e_sub, e_mul, e_quo, e_rem, e_and, e_or, e_xor, e_shl, e_shr, e_eql, e_neq, e_lss, e_leq, e_gtr, e_geq, e_beq, e_bne, e_peq1, e_peq2, e_pne1, e_pne2, e_zeq1, e_zeq2, e_zne1, e_zne2, e_feq1, e_fne1, e_feq2, e_fne2, e_seq, e_sne, e_ta1, e_ta2, Nat.zero_add, Nat.add_zero, Bool.not_true, Bool.not_false]
    rw [e8]
    refine ⟨by omega, ?_⟩
    rw [cy_shl h1 h2, wrap64_id (by omega) (by omega)]
    have hp : g xs i = prv xs (i + 1) := by unfold prv; rw [if_neg (by omega)]; rfl
    rw [hp]
    exact ⟨n - 1, by omega, i + 1, by omega, by simp, m2, hk1.trans hk2, by omega⟩
  · have hlt' : ¬ ((i : Nat) : Int) < ((xs.length : Nat) : Int) := by omega
    simp only [hlt', decide_false, e_fd, e_nck, e_pkt, e_pkf, e_gdtt, e_gdtf, e_gdft, e_gdff, e_ift, e_iff, e_not, e_ln, e_lnT, e_cp, e_cvi, e_ex20, e_ex21, e_ex30, e_ex31, e_ex32, e_add, e_sub, e_mul, e_quo, e_rem, e_and, e_or, e_xor, e_shl, e_shr, e_eql, e_neq, e_lss, e_leq, e_gtr, e_geq, e_beq, e_bne, e_peq1, e_peq2, e_pne1, e_pne2, e_zeq1, e_zeq2, e_zne1, e_zne2, e_feq1, e_fne1, e_feq2, e_fne2, e_seq, e_sne, e_ta1, e_ta2, Nat.zero_add, Nat.add_zero, Bool.not_true, Bool.not_false]
    have : i = xs.length := by omega
    rw [this] at m1
    exact hK w1 m1 hk1 hz1
theorem rotateRight_ok {q : Int} (h : Mv w v ob o xs pre post) (hq : 0 < xs.length → True) (hK : ∀ w', Mv w' v ob o (if xs.length = 0 then xs else rotR xs (q % (8 * xs.length)).toNat) pre post → Kp (fun k => ob = some k) w w' → w'.heap.size = w.heap.size → K (.tuple #[]) w') : cl Try.prog 39 #[v, I q] K w := by
  have hl := h.len
  apply c39
  unfold s39_p6
  refine h.ln ?_
  try simp only [e_fd, e_nck, e_pkt, e_pkf, e_gdtt, e_gdtf, e_gdft, e_gdff, e_ift, e_iff, e_not, e_ln, e_lnT, e_cp, e_cvi, e_ex20, e_ex21, e_ex30, e_ex31, e_ex32, e_add, e_sub, e_mul, e_quo, e_rem, e_and, e_or, e_xor, e_shl, e_shr, e_eql, e_neq, e_lss, e_leq, e_gtr, e_geq, e_beq, e_bne, e_peq1, e_peq2, e_pne1, e_pne2, e_zeq1, e_zeq2, e_zne1, e_zne2, e_feq1, e_fne1, e_feq2, e_fne2, e_seq, e_sne, e_ta1, e_ta2, Nat.zero_add, Nat.add_zero, Bool.not_true, Bool.not_false]
  by_cases h0 : xs.length = 0
  · have e : (((xs.length : Nat) : Int) == 0) = true := by rw [h0]; rfl
    simp only [e, e_fd, e_nck, e_pkt, e_pkf, e_gdtt, e_gdtf, e_gdft, e_gdff, e_ift, e_iff, e_not, e_ln, e_lnT, e_cp, e_cvi, e_ex20, e_ex21, e_ex30, e_ex31, e_ex32, e_add, e_sub, e_mul, e_quo, e_rem, e_and, e_or, e_xor, e_shl, e_shr, e_eql, e_neq, e_lss, e_leq, e_gtr, e_geq, e_beq, e_bne, e_peq1, e_peq2, e_pne1, e_pne2, e_zeq1, e_zeq2, e_zne1, e_zne2, e_feq1, e_fne1, e_feq2, e_fne2, e_seq, e_sne, e_ta1, e_ta2, Nat.zero_add, Nat.add_zero, Bool.not_true, Bool.not_false]
    rw [if_pos h0] at hK
    exact hK w h (Kp.refl _ _) rfl
  have e : (((xs.length : Nat) : Int) == 0) = false := by rw [beq_eq_false_iff_ne]; omega
  simp only [e, e_fd, e_nck, e_pkt, e_pkf, e_gdtt, e_gdtf, e_gdft, e_gdff, e_ift, e_iff, e_not, e_ln, e_lnT, e_cp, e_cvi, e_ex20, e_ex21, e_ex30, e_ex31, e_ex32, e_add, e_sub, e_mul, e_quo, e_rem, e_and, e_or, e_xor, e_shl, e_shr, e_eql, e_neq, e_lss, e_leq, e_gtr, e_geq, e_beq, e_bne, e_peq1, e_peq2, e_pne1, e_pne2, e_zeq1, e_zeq2, e_zne1, e_zne2, e_feq1, e_fne1, e_feq2, e_fne2, e_seq, e_sne, e_ta1, e_ta2, Nat.zero_add, Nat.add_zero, Bool.not_true, Bool.not_false]
  rw [if_neg h0] at hK
  refine h.ln ?_
  try simp only [e_fd, e_nck, e_pkt, e_pkf, e_gdtt, e_gdtf, e_gdft, e_gdff, e_ift, e_iff, e_not, e_ln, e_lnT, e_cp, e_cvi, e_ex20, e_ex21, e_ex30, e_ex31, e_ex32, e_add, e_sub, e_mul, e_quo, e_rem, e_and, e_or, e_xor, e_shl, e_shr, e_eql, e_neq, e_lss, e_leq, e_gtr, e_geq, e_beq, e_bne, e_peq1, e_peq2, e_pne1, e_pne2, e_zeq1, e_zeq2, e_zne1, e_zne2, e_feq1, e_fne1, e_feq2, e_fne2, e_seq, e_sne, e_ta1, e_ta2, Nat.zero_add, Nat.add_zero, Bool.not_true, Bool.not_false]
  rw [wrap64_id (by omega) (by omega)]
  refine turns_ok (by omega) (by omega) ?_
  obtain ⟨m, hm⟩ : ∃ m : Nat, q % (8 * (xs.length : Int)) = (m : Int) := ⟨(q % (8 * (xs.length : Int))).toNat, by have := Int.emod_nonneg q (show 8 * (xs.length : Int) ≠ 0 by omega); omega⟩
  have hml : m < 8 * xs.length := by have := Int.emod_lt_of_pos q (show 0 < 8 * (xs.length : Int) by omega); omega
  rw [hm] at hK ⊢
  rw [Int.toNat_natCast] at hK
  try simp only [e_fd, e_nck, e_pkt, e_pkf, e_gdtt, e_gdtf, e_gdft, e_gdff, e_ift, e_iff, e_not, e_ln, e_lnT, e_cp, e_cvi, e_ex20, e_ex21, e_ex30, e_ex31, e_ex32, e_add, e_sub, e_mul, e_quo, e_rem, e_and, e_or, e_xor, e_shl, e_shr, e_eql, e_neq, e_lss, e_leq, e_gtr, e_geq, e_beq, e_bne, e_peq1, e_peq2, e_pne1, e_pne2, e_zeq1, e_zeq2, e_zne1, e_zne2, e_feq1, e_fne1, e_feq2, e_fne2, e_seq, e_sne, e_ta1, e_ta2, Nat.zero_add, Nat.add_zero, Bool.not_true, Bool.not_false]
  refine ⟨by decide, ?_⟩
  have ed : IntKind.i64.wrap (((m : Nat) : Int).tdiv 8) = ((m / 8 : Nat) : Int) := by
    rw [Int.tdiv_eq_ediv_of_nonneg (by omega), wrap64_id (by omega) (by omega)]; omega
  rw [ed]
  have fin : ∀ {w1 : World}, Mv w1 v ob o (rotB xs (m / 8)) pre post → Kp (fun k => ob = some k) w w1 → w1.heap.size = w.heap.size → s39_p5 K v (I (m : Nat)) w1 := by
    intro w1 m1 hk1 hz1
    unfold s39_p5
    try simp only [e_fd, e_nck, e_pkt, e_pkf, e_gdtt, e_gdtf, e_gdft, e_gdff, e_ift, e_iff, e_not, e_ln, e_lnT, e_cp, e_cvi, e_ex20, e_ex21, e_ex30, e_ex31, e_ex32, e_add, e_sub, e_mul, e_quo, e_rem, e_and, e_or, e_xor, e_shl, e_shr, e_eql, e_neq, e_lss, e_leq, e_gtr, e_geq, e_beq, e_bne, e_peq1, e_peq2, e_pne1, e_pne2, e_zeq1, e_zeq2, e_zne1, e_zne2, e_feq1, e_fne1, e_feq2, e_fne2, e_seq, e_sne, e_ta1, e_ta2, Nat.zero_add, Nat.add_zero, Bool.not_true, Bool.not_false]
    refine ⟨by decide, ?_⟩
    have em : IntKind.u64.wrap (((m : Nat) : Int).tmod 8) = ((m % 8 : Nat) : Int) := by
      rw [Int.tmod_eq_emod_of_nonneg (by omega), wrapu64]; omega
    rw [em]
    unfold s39_p4
    by_cases hp : m % 8 = 0
    · have e : (((m % 8 : Nat) : Int) != 0) = false := by rw [hp]; rfl
      simp only [e, e_fd, e_nck, e_pkt, e_pkf, e_gdtt, e_gdtf, e_gdft, e_gdff, e_ift, e_iff, e_not, e_ln, e_lnT, e_cp, e_cvi, e_ex20, e_ex21, e_ex30, e_ex31, e_ex32, e_add, e_sub, e_mul, e_quo, e_rem, e_and, e_or, e_xor, e_shl, e_shr, e_eql, e_neq, e_lss, e_leq, e_gtr, e_geq, e_beq, e_bne, e_peq1, e_peq2, e_pne1, e_pne2, e_zeq1, e_zeq2, e_zne1, e_zne2, e_feq1, e_fne1, e_feq2, e_fne2, e_seq, e_sne, e_ta1, e_ta2, Nat.zero_add, Nat.add_zero, Bool.not_true, Bool.not_false]
      have er : rotR xs m = rotB xs (m / 8) := by unfold rotR; rw [if_pos hp]
      rw [er] at hK
      exact hK w1 m1 hk1 hz1
    · have e : (((m % 8 : Nat) : Int) != 0) = true := by rw [bne_iff_ne]; omega
      simp only [e, e_fd, e_nck, e_pkt, e_pkf, e_gdtt, e_gdtf, e_gdft, e_gdff, e_ift, e_iff, e_not, e_ln, e_lnT, e_cp, e_cvi, e_ex20, e_ex21, e_ex30, e_ex31, e_ex32, e_add, e_sub, e_mul, e_quo, e_rem, e_and, e_or, e_xor, e_shl, e_shr, e_eql, e_neq, e_lss, e_leq, e_gtr, e_geq, e_beq, e_bne, e_peq1, e_peq2, e_pne1, e_pne2, e_zeq1, e_zeq2, e_zne1, e_zne2, e_feq1, e_fne1, e_feq2, e_fne2, e_seq, e_sne, e_ta1, e_ta2, Nat.zero_add, Nat.add_zero, Bool.not_true, Bool.not_false]
      refine shift_ok m1 (by rw [rotB_len]; omega) (by omega) (by omega) fun w2 m2 hk2 hz2 => ?_
      have er : rotR xs m = shP (m % 8) (rotB xs (m / 8)) xs.length := by unfold rotR; rw [if_neg hp]
      rw [er] at hK
      rw [rotB_len] at m2
      exact hK w2 m2 (hk1.trans hk2) (by omega)
  by_cases hw : m / 8 = 0
  · have e : (((m / 8 : Nat) : Int) != 0) = false := by rw [hw]; rfl
    simp only [e, e_fd, e_nck, e_pkt, e_pkf, e_gdtt, e_gdtf, e_gdft, e_gdff, e_ift, e_iff, e_not, e_ln, e_lnT, e_cp, e_cvi, e_ex20, e_ex21, e_ex30, e_ex31, e_ex32, e_add, e_sub, e_mul, e_quo, e_rem, e_and, e_or, e_xor, e_shl, e_shr, e_eql, e_neq, e_lss, e_leq, e_gtr, e_geq, e_beq, e_bne, e_peq1, e_peq2, e_pne1, e_pne2, e_zeq1, e_zeq2, e_zne1, e_zne2, e_feq1, e_fne1, e_feq2, e_fne2, e_seq, e_sne, e_ta1, e_ta2, Nat.zero_add, Nat.add_zero, Bool.not_true, Bool.not_false]
    rw [hw, rotB_0] at fin
    exact fin h (Kp.refl _ _) rfl
  · have e : (((m / 8 : Nat) : Int) != 0) = true := by rw [bne_iff_ne]; omega
    simp only [e, e_fd, e_nck, e_pkt, e_pkf, e_gdtt, e_gdtf, e_gdft, e_gdff, e_ift, e_iff, e_not, e_ln, e_lnT, e_cp, e_cvi, e_ex20, e_ex21, e_ex30, e_ex31, e_ex32, e_add, e_sub, e_mul, e_quo, e_rem, e_and, e_or, e_xor, e_shl, e_shr, e_eql, e_neq, e_lss, e_leq, e_gtr, e_geq, e_beq, e_bne, e_peq1, e_peq2, e_pne1, e_pne2, e_zeq1, e_zeq2, e_zne1, e_zne2, e_feq1, e_fne1, e_feq2, e_fne2, e_seq, e_sne, e_ta1, e_ta2, Nat.zero_add, Nat.add_zero, Bool.not_true, Bool.not_false]
    have hwl : m / 8 < xs.length := by omega
    refine reverse_ok h fun w1 m1 hk1 hz1 => ?_
    have hrl : xs.reverse.length = xs.length := List.length_reverse
    refine m1.to rfl (by omega) (by omega) fun v1 mv1 join1 => ?_
    refine reverse_ok mv1 fun w2 m2 hk2 hz2 => ?_
    have m3 := join1 m1 rfl m2 (by rw [List.length_reverse, List.length_take]; omega)
    have hl3 : ((xs.reverse.take (m / 8)).reverse ++ xs.reverse.drop (m / 8)).length = xs.length := by rw [List.length_append, List.length_reverse, ← List.length_append, List.take_append_drop, hrl]
    have hlA : (xs.reverse.take (m / 8)).reverse.length = m / 8 := by rw [List.length_reverse, List.length_take]; omega
    refine m3.from rfl (by omega) fun v2 mv2 join2 => ?_
    refine reverse_ok mv2 fun w4 m4 hk4 hz4 => ?_
    have m5 := join2 m3 rfl m4 (by rw [List.length_reverse, List.length_drop])
    rw [List.take_left' hlA, List.drop_left' hlA] at m5
    exact fin m5 ((hk1.trans hk2).trans hk4) (by omega)
theorem rotateLeft_ok {q : Int} (h : Mv w v ob o xs pre post) (hK : ∀ w', Mv w' v ob o (if xs.length = 0 then xs else rotR xs ((8 * xs.length - q % (8 * xs.length)) % (8 * xs.length)).toNat) pre post → Kp (fun k => ob = some k) w w' → w'.heap.size = w.heap.size → K (.tuple #[]) w') : cl Try.prog 38 #[v, I q] K w := by
  have hl := h.len
  apply c38
  unfold s38_p1
  refine h.ln ?_
  try simp only [e_fd, e_nck, e_pkt, e_pkf, e_gdtt, e_gdtf, e_gdft, e_gdff, e_ift, e_iff, e_not, e_ln, e_lnT, e_cp, e_cvi, e_ex20, e_ex21, e_ex30, e_ex31, e_ex32, e_add, e_sub, e_mul, e_quo, e_rem, e_and, e_or, e_xor, e_shl, e_shr, e_eql, e_neq, e_lss, e_leq, e_gtr, e_geq, e_beq, e_bne, e_peq1, e_peq2, e_pne1, e_pne2, e_zeq1, e_zeq2, e_zne1, e_zne2, e_feq1, e_fne1, e_feq2, e_fne2, e_seq, e_sne, e_ta1, e_ta2, Nat.zero_add, Nat.add_zero, Bool.not_true, Bool.not_false]
  by_cases h0 : xs.length = 0
  · have e : (((xs.length : Nat) : Int) == 0) = true := by rw [h0]; rfl
    simp only [e, e_fd, e_nck, e_pkt, e_pkf, e_gdtt, e_gdtf, e_gdft, e_gdff, e_ift, e_iff, e_not, e_ln, e_lnT, e_cp, e_cvi, e_ex20, e_ex21, e_ex30, e_ex31, e_ex32, e_add, e_sub, e_mul, e_quo, e_rem, e_and, e_or, e_xor, e_shl, e_shr, e_eql, e_neq, e_lss, e_leq, e_gtr, e_geq, e_beq, e_bne, e_peq1, e_peq2, e_pne1, e_pne2, e_zeq1, e_zeq2, e_zne1, e_zne2, e_feq1, e_fne1, e_feq2, e_fne2, e_seq, e_sne, e_ta1, e_ta2, Nat.zero_add, Nat.add_zero, Bool.not_true, Bool.not_false]
    rw [if_pos h0] at hK
    exact hK w h (Kp.refl _ _) rfl
  have e : (((xs.length : Nat) : Int) == 0) = false := by rw [beq_eq_false_iff_ne]; omega
  simp only [e, e_fd, e_nck, e_pkt, e_pkf, e_gdtt, e_gdtf, e_gdft, e_gdff, e_ift, e_iff, e_not, e_ln, e_lnT, e_cp, e_cvi, e_ex20, e_ex21, e_ex30, e_ex31, e_ex32, e_add, e_sub, e_mul, e_quo, e_rem, e_and, e_or, e_xor, e_shl, e_shr, e_eql, e_neq, e_lss, e_leq, e_gtr, e_geq, e_beq, e_bne, e_peq1, e_peq2, e_pne1, e_pne2, e_zeq1, e_zeq2, e_zne1, e_zne2, e_feq1, e_fne1, e_feq2, e_fne2, e_seq, e_sne, e_ta1, e_ta2, Nat.zero_add, Nat.add_zero, Bool.not_true, Bool.not_false]
  refine h.ln ?_
  try simp only [e_fd, e_nck, e_pkt, e_pkf, e_gdtt, e_gdtf, e_gdft, e_gdff, e_ift, e_iff, e_not, e_ln, e_lnT, e_cp, e_cvi, e_ex20, e_ex21, e_ex30, e_ex31, e_ex32, e_add, e_sub, e_mul, e_quo, e_rem, e_and, e_or, e_xor, e_shl, e_shr, e_eql, e_neq, e_lss, e_leq, e_gtr, e_geq, e_beq, e_bne, e_peq1, e_peq2, e_pne1, e_pne2, e_zeq1, e_zeq2, e_zne1, e_zne2, e_feq1, e_fne1, e_feq2, e_fne2, e_seq, e_sne, e_ta1, e_ta2, Nat.zero_add, Nat.add_zero, Bool.not_true, Bool.not_false]
  rw [wrap64_id (by omega) (by omega)]
  refine turns_ok (by omega) (by omega) ?_
  have h1 := Int.emod_nonneg q (show 8 * (xs.length : Int) ≠ 0 by omega)
  have h2 := Int.emod_lt_of_pos q (show 0 < 8 * (xs.length : Int) by omega)
  try simp only [e_fd, e_nck, e_pkt, e_pkf, e_gdtt, e_gdtf, e_gdft, e_gdff, e_ift, e_iff, e_not, e_ln, e_lnT, e_cp, e_cvi, e_ex20, e_ex21, e_ex30, e_ex31, e_ex32, e_add, e_sub, e_mul, e_quo, e_rem, e_and, e_or, e_xor, e_shl, e_shr, e_eql, e_neq, e_lss, e_leq, e_gtr, e_geq, e_beq, e_bne, e_peq1, e_peq2, e_pne1, e_pne2, e_zeq1, e_zeq2, e_zne1, e_zne2, e_feq1, e_fne1, e_feq2, e_fne2, e_seq, e_sne, e_ta1, e_ta2, Nat.zero_add, Nat.add_zero, Bool.not_true, Bool.not_false]
  rw [wrap64_id (by omega) (by omega)]
  refine rotateRight_ok h (fun _ => trivial) fun w1 m1 hk1 hz1 => ?_
  exact hK w1 m1 hk1 hz1
end
end Go.Proofs.Qxb6500898a
