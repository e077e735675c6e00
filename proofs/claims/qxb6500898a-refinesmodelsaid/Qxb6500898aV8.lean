import Derived.Test.Qxb6500898aV7
namespace Go.Proofs.Qxb6500898a
open Go.Sh Go.RowKit
set_option linter.unusedVariables false
set_option linter.unusedSimpArgs false

/-! ### folding -/
def sumN (f : Nat → Int) : Nat → Int
  | 0 => 0
  | m + 1 => sumN f m + f m
theorem sumN_congr {f h : Nat → Int} : ∀ (m : Nat), (∀ j, j < m → f j = h j) → sumN f m = sumN h m
  | 0, _ => rfl
  | m + 1, e => by rw [sumN, sumN, sumN_congr m (fun j hj => e j (by omega)), e m (by omega)]
theorem sumN_mul {f h : Nat → Int} (P : Int) : ∀ (m : Nat), sumN (fun j => f j * P + h j) m = sumN f m * P + sumN h m
  | 0 => by simp [sumN]
  | m + 1 => by rw [sumN, sumN, sumN, sumN_mul P m, Int.add_mul]; omega
theorem sumN_rng {f : Nat → Int} (hf : ∀ j, 0 ≤ f j ∧ f j ≤ 255) : ∀ (m : Nat), 0 ≤ sumN f m ∧ sumN f m ≤ 255 * (m : Int)
  | 0 => by simp [sumN]
  | m + 1 => by have := sumN_rng hf m; have := hf m; rw [sumN]; omega
def pce (ys : List Int) (n j : Nat) : List Int := (ys.drop (j * n)).take n
def tlS (ys : List Int) (n m col : Nat) : Int := sumN (fun j => val ((pce ys n j).drop col)) m
/-- the total of the pieces -/
def foldT (ys : List Int) (n : Nat) : Int := sumN (fun j => val (pce ys n j)) (ys.length / n)
section
variable {w w' : World} {v d : Value} {ob : Option Nat} {o : Nat} {xs ys zs : List Int} {pre post : List Value} {K : Value → World → Prop} {B1 : List Value → World → Prop} {k : World → Prop} {i e p n m : Nat} {z c : Int} {C : Nat → Prop}
theorem mul_lt {j n m : Nat} (hj : j < m) {col : Nat} (hc : col < n) : col + j * n < m * n := by
  have : (j + 1) * n ≤ m * n := Nat.mul_le_mul_right _ hj
  rw [Nat.add_mul, Nat.one_mul] at this
  omega
theorem pce_len {j : Nat} (hm : ys.length = m * n) (hj : j < m) : (pce ys n j).length = n := by
  unfold pce
  rw [List.length_take, List.length_drop, hm]
  have : (j + 1) * n ≤ m * n := Nat.mul_le_mul_right _ hj
  rw [Nat.add_mul, Nat.one_mul] at this
  omega
theorem pce_get {j col : Nat} (hm : ys.length = m * n) (hj : j < m) (hc : col < n) (h' : col < (pce ys n j).length) : (pce ys n j)[col] = g ys (col + j * n) := by
  have h1 := mul_lt hj hc
  rw [g_get (by omega)]
  simp only [pce, List.getElem_take, List.getElem_drop]
  congr 1; omega
theorem tl_step {col : Nat} (hm : ys.length = m * n) (hc : col < n) : tlS ys n m col = sumN (fun j => g ys (col + j * n)) m * 256 ^ (n - 1 - col) + tlS ys n m (col + 1) := by
  unfold tlS
  rw [← sumN_mul]
  refine sumN_congr m fun j hj => ?_
  have hl := pce_len hm hj
  rw [List.drop_eq_getElem_cons (by omega), val, List.length_drop, pce_get hm hj hc, hl, show n - (col + 1) = n - 1 - col by omega]
theorem tl_end (hm : ys.length = m * n) : tlS ys n m n = 0 := by
  unfold tlS
  have : sumN (fun j => val ((pce ys n j).drop n)) m = sumN (fun _ => 0) m := sumN_congr m fun j hj => by rw [List.drop_of_length_le (by rw [pce_len hm hj]; exact Nat.le_refl _)]; rfl
  rw [this]
  clear this hm
  induction m with
  | zero => rfl
  | succ m ih => rw [sumN, ih]; rfl
/-- one column -/
theorem fold_col {col : Nat} {c : Int} (hd : Bs w d ys) (hn : 0 < n) (hm : ys.length = m * n) (hl : ys.length ≤ 1000000000000) (hc : col < n) (h0 : 0 ≤ c) (h1 : c ≤ 256 * (m : Int))
    (next : s41_p3 K B1 v d (I (n : Nat)) (.int .u64 (c + sumN (fun j => g ys (col + j * n)) m)) (I (col : Nat)) w) :
    s41_p6 K B1 v d (I (n : Nat)) (.int .u64 c) (I (col : Nat)) w := by
  have gb := hd.gb
  have hmm : m ≤ 1000000000000 := by
    have : m * 1 ≤ m * n := Nat.mul_le_mul_left _ hn
    omega
  unfold s41_p6 s41_p5
  refine ⟨fun q l w' => w' = w ∧ ∃ j : Nat, q + j = m ∧ l = [v, d, I (n : Nat), .int .u64 (c + sumN (fun j => g ys (col + j * n)) j), I (col : Nat), I (col + j * n : Nat)], m, ⟨rfl, 0, rfl, by simp [sumN]⟩, ?_⟩
  rintro q l w1 ⟨rfl, j, hq, rfl⟩
  rw [s41_p5_Fe]
  unfold s41_p4
  refine hd.ln ?_
  try simp only [e_fd, e_nck, e_pkt, e_pkf, e_gdtt, e_gdtf, e_gdft, e_gdff, e_ift, e_iff, e_not, e_ln, e_lnT, e_cp, e_cvi, e_ex20, e_ex21, e_ex30, e_ex31, e_ex32, e_add, e_sub, e_mul, e_quo, e_rem, e_and, e_or, e_xor, e_shl, e_shr, e_eql, e_neq, e_lss, e_leq, e_gtr, e_geq, e_beq, e_bne, e_peq1, e_peq2, e_pne1, e_pne2, e_zeq1, e_zeq2, e_zne1, e_zne2, e_feq1, e_fne1, e_feq2, e_fne2, e_seq, e_sne, e_ta1, e_ta2, Nat.zero_add, Nat.add_zero, Bool.not_true, Bool.not_false]
  by_cases hj : j < m
  · have hlt := mul_lt hj hc
    have hlt' : ((col + j * n : Nat) : Int) < ((ys.length : Nat) : Int) := by omega
    simp only [hlt', decide_true, e_fd, e_nck, e_pkt, e_pkf, e_gdtt, e_gdtf, e_gdft, e_gdff, e_ift, e_iff, e_not, e_ln, e_lnT, e_cp, e_cvi, e_ex20, e_ex21, e_ex30, e_ex31, e_ex32, e_add, e_sub, e_mul, e_quo, e_rem, e_and, e_or, e_xor, e_shl, e_shr, e_eql, e_neq, e_lss, e_leq, e_gtr, e_geq, e_beq, e_bne, e_peq1, e_peq2, e_pne1, e_pne2, e_zeq1, e_zeq2, e_zne1, e_zne2, e_feq1, e_fne1, e_feq2, e_fne2, e_seq, e_sne, e_ta1, e_ta2, Nat.zero_add, Nat.add_zero, Bool.not_true, Bool.not_false]
    refine hd.ixg (col + j * n) rfl (by omega) fun b' q' hld => hld _ ?_
    try simp only [e_fd, e_nck, e_pkt, e_pkf, e_gdtt, e_gdtf, e_gdft, e_gdff, e_ift, e_iff, e_not, e_ln, e_lnT, e_cp, e_cvi, e_ex20, e_ex21, e_ex30, e_ex31, e_ex32, e_add, e_sub, e_mul, e_quo, e_rem, e_and, e_or, e_xor, e_shl, e_shr, e_eql, e_neq, e_lss, e_leq, e_gtr, e_geq, e_beq, e_bne, e_peq1, e_peq2, e_pne1, e_pne2, e_zeq1, e_zeq2, e_zne1, e_zne2, e_feq1, e_fne1, e_feq2, e_fne2, e_seq, e_sne, e_ta1, e_ta2, Nat.zero_add, Nat.add_zero, Bool.not_true, Bool.not_false]
    have hn2 : 1 * n ≤ m * n := Nat.mul_le_mul_right _ (by omega)
    have b1 := gb (col + j * n)
    have b2 := sumN_rng (f := fun j => g ys (col + j * n)) (fun j => gb _) j
    rw [wrapu64 (g ys (col + j * n)), show g ys (col + j * n) % 18446744073709551616 = g ys (col + j * n) by omega, wrapu64 (_ + g ys (col + j * n)), wrap64_id (by omega) (by omega)]
    have e1 : (c + sumN (fun j => g ys (col + j * n)) j + g ys (col + j * n)) % 18446744073709551616 = c + sumN (fun j => g ys (col + j * n)) (j + 1) := by rw [sumN]; omega
    rw [e1]
    have e2 : ((col + j * n : Nat) : Int) + ((n : Nat) : Int) = ((col + (j + 1) * n : Nat) : Int) := by rw [Nat.add_mul, Nat.one_mul]; omega
    rw [e2]
    exact ⟨q - 1, by omega, by trivial, j + 1, by omega, rfl⟩
  · have hjm : j = m := by omega
    subst hjm
    have hlt' : ¬ ((col + j * n : Nat) : Int) < ((ys.length : Nat) : Int) := by omega
    simp only [hlt', decide_false, e_fd, e_nck, e_pkt, e_pkf, e_gdtt, e_gdtf, e_gdft, e_gdff, e_ift, e_iff, e_not, e_ln, e_lnT, e_cp, e_cvi, e_ex20, e_ex21, e_ex30, e_ex31, e_ex32, e_add, e_sub, e_mul, e_quo, e_rem, e_and, e_or, e_xor, e_shl, e_shr, e_eql, e_neq, e_lss, e_leq, e_gtr, e_geq, e_beq, e_bne, e_peq1, e_peq2, e_pne1, e_pne2, e_zeq1, e_zeq2, e_zne1, e_zne2, e_feq1, e_fne1, e_feq2, e_fne2, e_seq, e_sne, e_ta1, e_ta2, Nat.zero_add, Nat.add_zero, Bool.not_true, Bool.not_false]
    exact next
theorem foldOnes_ok (h : Mv w v ob o xs pre post) (hd : ∀ w', Kp (fun k => ob = some k) w w' → Bs w' d ys) (hyl : ys.length ≤ 1000000000000)
    (hN : (xs.length = 0 ∨ ys.length = 0 ∨ ys.length % xs.length ≠ 0) → K (.bool false) w)
    (hY : ¬ (xs.length = 0 ∨ ys.length = 0 ∨ ys.length % xs.length ≠ 0) → ∀ w' zs, Mv w' v ob o zs pre post → zs.length = xs.length → Res xs.length (foldT ys xs.length) (val zs) → Kp (fun k => ob = some k) w w' → w.heap.size ≤ w'.heap.size → K (.bool true) w') : cl Try.prog 41 #[v, d] K w := by
  have hl := h.len
  have hd0 := hd w (Kp.refl _ _)
  apply c41
  unfold s41_p9
  refine h.ln ?_
  try simp only [e_fd, e_nck, e_pkt, e_pkf, e_gdtt, e_gdtf, e_gdft, e_gdff, e_ift, e_iff, e_not, e_ln, e_lnT, e_cp, e_cvi, e_ex20, e_ex21, e_ex30, e_ex31, e_ex32, e_add, e_sub, e_mul, e_quo, e_rem, e_and, e_or, e_xor, e_shl, e_shr, e_eql, e_neq, e_lss, e_leq, e_gtr, e_geq, e_beq, e_bne, e_peq1, e_peq2, e_pne1, e_pne2, e_zeq1, e_zeq2, e_zne1, e_zne2, e_feq1, e_fne1, e_feq2, e_fne2, e_seq, e_sne, e_ta1, e_ta2, Nat.zero_add, Nat.add_zero, Bool.not_true, Bool.not_false]
  by_cases h0 : xs.length = 0
  · have e : (((xs.length : Nat) : Int) == 0) = true := by rw [h0]; rfl
    simp only [e, e_fd, e_nck, e_pkt, e_pkf, e_gdtt, e_gdtf, e_gdft, e_gdff, e_ift, e_iff, e_not, e_ln, e_lnT, e_cp, e_cvi, e_ex20, e_ex21, e_ex30, e_ex31, e_ex32, e_add, e_sub, e_mul, e_quo, e_rem, e_and, e_or, e_xor, e_shl, e_shr, e_eql, e_neq, e_lss, e_leq, e_gtr, e_geq, e_beq, e_bne, e_peq1, e_peq2, e_pne1, e_pne2, e_zeq1, e_zeq2, e_zne1, e_zne2, e_feq1, e_fne1, e_feq2, e_fne2, e_seq, e_sne, e_ta1, e_ta2, Nat.zero_add, Nat.add_zero, Bool.not_true, Bool.not_false]
    exact hN (.inl h0)
  have e : (((xs.length : Nat) : Int) == 0) = false := by rw [beq_eq_false_iff_ne]; omega
  simp only [e, e_fd, e_nck, e_pkt, e_pkf, e_gdtt, e_gdtf, e_gdft, e_gdff, e_ift, e_iff, e_not, e_ln, e_lnT, e_cp, e_cvi, e_ex20, e_ex21, e_ex30, e_ex31, e_ex32, e_add, e_sub, e_mul, e_quo, e_rem, e_and, e_or, e_xor, e_shl, e_shr, e_eql, e_neq, e_lss, e_leq, e_gtr, e_geq, e_beq, e_bne, e_peq1, e_peq2, e_pne1, e_pne2, e_zeq1, e_zeq2, e_zne1, e_zne2, e_feq1, e_fne1, e_feq2, e_fne2, e_seq, e_sne, e_ta1, e_ta2, Nat.zero_add, Nat.add_zero, Bool.not_true, Bool.not_false]
  refine hd0.ln ?_
  try simp only [e_fd, e_nck, e_pkt, e_pkf, e_gdtt, e_gdtf, e_gdft, e_gdff, e_ift, e_iff, e_not, e_ln, e_lnT, e_cp, e_cvi, e_ex20, e_ex21, e_ex30, e_ex31, e_ex32, e_add, e_sub, e_mul, e_quo, e_rem, e_and, e_or, e_xor, e_shl, e_shr, e_eql, e_neq, e_lss, e_leq, e_gtr, e_geq, e_beq, e_bne, e_peq1, e_peq2, e_pne1, e_pne2, e_zeq1, e_zeq2, e_zne1, e_zne2, e_feq1, e_fne1, e_feq2, e_fne2, e_seq, e_sne, e_ta1, e_ta2, Nat.zero_add, Nat.add_zero, Bool.not_true, Bool.not_false]
  by_cases h1 : ys.length = 0
  · have e : (((ys.length : Nat) : Int) == 0) = true := by rw [h1]; rfl
    simp only [e, e_fd, e_nck, e_pkt, e_pkf, e_gdtt, e_gdtf, e_gdft, e_gdff, e_ift, e_iff, e_not, e_ln, e_lnT, e_cp, e_cvi, e_ex20, e_ex21, e_ex30, e_ex31, e_ex32, e_add, e_sub, e_mul, e_quo, e_rem, e_and, e_or, e_xor, e_shl, e_shr, e_eql, e_neq, e_lss, e_leq, e_gtr, e_geq, e_beq, e_bne, e_peq1, e_peq2, e_pne1, e_pne2, e_zeq1, e_zeq2, e_zne1, e_zne2, e_feq1, e_fne1, e_feq2, e_fne2, e_seq, e_sne, e_ta1, e_ta2, Nat.zero_add, Nat.add_zero, Bool.not_true, Bool.not_false]
    exact hN (.inr (.inl h1))
  have e : (((ys.length : Nat) : Int) == 0) = false := by rw [beq_eq_false_iff_ne]; omega
  simp only [e, e_fd, e_nck, e_pkt, e_pkf, e_gdtt, e_gdtf, e_gdft, e_gdff, e_ift, e_iff, e_not, e_ln, e_lnT, e_cp, e_cvi, e_ex20, e_ex21, e_ex30, e_ex31, e_ex32, e_add, e_sub, e_mul, e_quo, e_rem, e_and, e_or, e_xor, e_shl, e_shr, e_eql, e_neq, e_lss, e_leq, e_gtr, e_geq, e_beq, e_bne, e_peq1, e_peq2, e_pne1, e_pne2, e_zeq1, e_zeq2, e_zne1, e_zne2, e_feq1, e_fne1, e_feq2, e_fne2, e_seq, e_sne, e_ta1, e_ta2, Nat.zero_add, Nat.add_zero, Bool.not_true, Bool.not_false]
  refine hd0.ln ?_
  try simp only [e_fd, e_nck, e_pkt, e_pkf, e_gdtt, e_gdtf, e_gdft, e_gdff, e_ift, e_iff, e_not, e_ln, e_lnT, e_cp, e_cvi, e_ex20, e_ex21, e_ex30, e_ex31, e_ex32, e_add, e_sub, e_mul, e_quo, e_rem, e_and, e_or, e_xor, e_shl, e_shr, e_eql, e_neq, e_lss, e_leq, e_gtr, e_geq, e_beq, e_bne, e_peq1, e_peq2, e_pne1, e_pne2, e_zeq1, e_zeq2, e_zne1, e_zne2, e_feq1, e_fne1, e_feq2, e_fne2, e_seq, e_sne, e_ta1, e_ta2, Nat.zero_add, Nat.add_zero, Bool.not_true, Bool.not_false]
  refine ⟨by omega, ?_⟩
  have em : ((ys.length : Nat) : Int).tmod ((xs.length : Nat) : Int) = ((ys.length % xs.length : Nat) : Int) := by
    rw [Int.tmod_eq_emod_of_nonneg (by omega)]; omega
  rw [em]
  by_cases h2 : ys.length % xs.length ≠ 0
  · have e : (((ys.length % xs.length : Nat) : Int) != 0) = true := by rw [bne_iff_ne]; omega
    simp only [e, e_fd, e_nck, e_pkt, e_pkf, e_gdtt, e_gdtf, e_gdft, e_gdff, e_ift, e_iff, e_not, e_ln, e_lnT, e_cp, e_cvi, e_ex20, e_ex21, e_ex30, e_ex31, e_ex32, e_add, e_sub, e_mul, e_quo, e_rem, e_and, e_or, e_xor, e_shl, e_shr, e_eql, e_neq, e_lss, e_leq, e_gtr, e_geq, e_beq, e_bne, e_peq1, e_peq2, e_pne1, e_pne2, e_zeq1, e_zeq2, e_zne1, e_zne2, e_feq1, e_fne1, e_feq2, e_fne2, e_seq, e_sne, e_ta1, e_ta2, Nat.zero_add, Nat.add_zero, Bool.not_true, Bool.not_false]
    exact hN (.inr (.inr h2))
  have h2' : ys.length % xs.length = 0 := Decidable.not_not.1 h2
  have e : (((ys.length % xs.length : Nat) : Int) != 0) = false := by rw [h2']; rfl
  simp only [e, e_fd, e_nck, e_pkt, e_pkf, e_gdtt, e_gdtf, e_gdft, e_gdff, e_ift, e_iff, e_not, e_ln, e_lnT, e_cp, e_cvi, e_ex20, e_ex21, e_ex30, e_ex31, e_ex32, e_add, e_sub, e_mul, e_quo, e_rem, e_and, e_or, e_xor, e_shl, e_shr, e_eql, e_neq, e_lss, e_leq, e_gtr, e_geq, e_beq, e_bne, e_peq1, e_peq2, e_pne1, e_pne2, e_zeq1, e_zeq2, e_zne1, e_zne2, e_feq1, e_fne1, e_feq2, e_fne2, e_seq, e_sne, e_ta1, e_ta2, Nat.zero_add, Nat.add_zero, Bool.not_true, Bool.not_false]
  refine hd0.ln ?_
  try simp only [e_fd, e_nck, e_pkt, e_pkf, e_gdtt, e_gdtf, e_gdft, e_gdff, e_ift, e_iff, e_not, e_ln, e_lnT, e_cp, e_cvi, e_ex20, e_ex21, e_ex30, e_ex31, e_ex32, e_add, e_sub, e_mul, e_quo, e_rem, e_and, e_or, e_xor, e_shl, e_shr, e_eql, e_neq, e_lss, e_leq, e_gtr, e_geq, e_beq, e_bne, e_peq1, e_peq2, e_pne1, e_pne2, e_zeq1, e_zeq2, e_zne1, e_zne2, e_feq1, e_fne1, e_feq2, e_fne2, e_seq, e_sne, e_ta1, e_ta2, Nat.zero_add, Nat.add_zero, Bool.not_true, Bool.not_false]
  refine ⟨by omega, ?_⟩
  obtain ⟨m, hm⟩ : ∃ m, m = ys.length / xs.length := ⟨_, rfl⟩
  have hmn : ys.length = m * xs.length := by
    have := Nat.div_add_mod ys.length xs.length
    rw [h2', Nat.add_zero, ← hm, Nat.mul_comm] at this; exact this.symm
  have hmm : m ≤ 1000000000000 := by
    have : m * 1 ≤ m * xs.length := Nat.mul_le_mul_left _ (by omega)
    omega
  have ed : ((ys.length : Nat) : Int).tdiv ((xs.length : Nat) : Int) = ((m : Nat) : Int) := by
    rw [Int.tdiv_eq_ediv_of_nonneg (by omega), ← Int.natCast_ediv, ← hm]
  rw [ed, wrap64_id (n := ((m : Nat) : Int)) (by omega) (by omega)]
  have e3 : ¬ (281474976710656 : Int) < ((m : Nat) : Int) := by omega
  simp only [e3, decide_false, e_fd, e_nck, e_pkt, e_pkf, e_gdtt, e_gdtf, e_gdft, e_gdff, e_ift, e_iff, e_not, e_ln, e_lnT, e_cp, e_cvi, e_ex20, e_ex21, e_ex30, e_ex31, e_ex32, e_add, e_sub, e_mul, e_quo, e_rem, e_and, e_or, e_xor, e_shl, e_shr, e_eql, e_neq, e_lss, e_leq, e_gtr, e_geq, e_beq, e_bne, e_peq1, e_peq2, e_pne1, e_pne2, e_zeq1, e_zeq2, e_zne1, e_zne2, e_feq1, e_fne1, e_feq2, e_fne2, e_seq, e_sne, e_ta1, e_ta2, Nat.zero_add, Nat.add_zero, Bool.not_true, Bool.not_false]
  rw [wrap64_id (by omega) (by omega)]
  have hY := hY (by rintro (q | q | q); exact h0 q; exact h1 q; exact h2 q)
  obtain ⟨n, hn⟩ : ∃ n, n = xs.length := ⟨_, rfl⟩
  rw [← hn] at hmn hY h0 hl ⊢
  have hT : foldT ys n = tlS ys n m 0 := by unfold foldT tlS; rw [hn, ← hm]; rfl
  unfold s41_p8
  refine ⟨fun q l w' => ∃ (S : List Int) (c : Int), q ≤ n ∧ S.length + q = n ∧ By S ∧ l = [v, d, I (n : Nat), .int .u64 c, I ((q : Int) - 1)] ∧ Mv w' v ob o (xs.take q ++ S) pre post ∧ 0 ≤ c ∧ c ≤ 256 * (m : Int) ∧ val S + c * 256 ^ S.length = tlS ys n m q ∧ Kp (fun k => ob = some k) w w',
    n, ⟨[], 0, Nat.le_refl _, by simp, fun x hx => (by cases hx), rfl, by rw [hn, List.take_length, List.append_nil]; exact h, Int.le_refl _, by omega, by rw [tl_end hmn]; simp [val], Kp.refl _ _⟩, ?_⟩
  rintro q l w1 ⟨S, c, hq, hS, hSb, rfl, m1, hc0, hc1, hv, hk1⟩
  rw [s41_p8_Fe]
  unfold s41_p7
  try simp only [e_fd, e_nck, e_pkt, e_pkf, e_gdtt, e_gdtf, e_gdft, e_gdff, e_ift, e_iff, e_not, e_ln, e_lnT, e_cp, e_cvi, e_ex20, e_ex21, e_ex30, e_ex31, e_ex32, e_add, e_sub, e_mul, e_quo, e_rem, e_and, e_or, e_xor, e_shl, e_shr, e_eql, e_neq, e_lss, e_leq, e_gtr, e_geq, e_beq, e_bne, e_peq1, e_peq2, e_pne1, e_pne2, e_zeq1, e_zeq2, e_zne1, e_zne2, e_feq1, e_fne1, e_feq2, e_fne2, e_seq, e_sne, e_ta1, e_ta2, Nat.zero_add, Nat.add_zero, Bool.not_true, Bool.not_false]
  by_cases hp : 0 < q
  · have hp' : (0 : Int) ≤ ((q : Nat) : Int) - 1 := by omega
    simp only [hp', decide_true, e_fd, e_nck, e_pkt, e_pkf, e_gdtt, e_gdtf, e_gdft, e_gdff, e_ift, e_iff, e_not, e_ln, e_lnT, e_cp, e_cvi, e_ex20, e_ex21, e_ex30, e_ex31, e_ex32, e_add, e_sub, e_mul, e_quo, e_rem, e_and, e_or, e_xor, e_shl, e_shr, e_eql, e_neq, e_lss, e_leq, e_gtr, e_geq, e_beq, e_bne, e_peq1, e_peq2, e_pne1, e_pne2, e_zeq1, e_zeq2, e_zne1, e_zne2, e_feq1, e_fne1, e_feq2, e_fne2, e_seq, e_sne, e_ta1, e_ta2, Nat.zero_add, Nat.add_zero, Bool.not_true, Bool.not_false]
    obtain ⟨col, hcol⟩ : ∃ col, q = col + 1 := ⟨q - 1, by omega⟩
    subst hcol
    rw [show ((col + 1 : Nat) : Int) - 1 = ((col : Nat) : Int) by omega]
    refine fold_col (hd w1 hk1) (by omega) hmn hyl (by omega) hc0 hc1 ?_
    have sr := sumN_rng (f := fun j => g ys (col + j * n)) (fun j => hd0.gb _) m
    unfold s41_p3
    try simp only [e_fd, e_nck, e_pkt, e_pkf, e_gdtt, e_gdtf, e_gdft, e_gdff, e_ift, e_iff, e_not, e_ln, e_lnT, e_cp, e_cvi, e_ex20, e_ex21, e_ex30, e_ex31, e_ex32, e_add, e_sub, e_mul, e_quo, e_rem, e_and, e_or, e_xor, e_shl, e_shr, e_eql, e_neq, e_lss, e_leq, e_gtr, e_geq, e_beq, e_bne, e_peq1, e_peq2, e_pne1, e_pne2, e_zeq1, e_zeq2, e_zne1, e_zne2, e_feq1, e_fne1, e_feq2, e_fne2, e_seq, e_sne, e_ta1, e_ta2, Nat.zero_add, Nat.add_zero, Bool.not_true, Bool.not_false]
    rw [wrapu8]
    have hLl : (xs.take (col + 1) ++ S).length = n := by rw [List.length_append, List.length_take]; omega
    refine m1.ix (i := col) (by omega) rfl fun pp _ hst => ?_
    refine hst m1 rfl (by omega) fun w2 m2 hk2 hz2 => ?_
    have hset : (xs.take (col + 1) ++ S).set col ((c + sumN (fun j => g ys (col + j * n)) m) % 256) = xs.take col ++ ((c + sumN (fun j => g ys (col + j * n)) m) % 256 :: S) := by
      rw [List.set_append_left _ _ (by rw [List.length_take]; omega), List.take_add_one, List.getElem?_eq_getElem (by omega)]
      have : (xs.take col).length = col := by rw [List.length_take]; omega
      rw [List.set_append_right _ _ (by omega), this, Nat.sub_self, List.append_assoc]
      rfl
    rw [hset] at m2
    try simp only [e_fd, e_nck, e_pkt, e_pkf, e_gdtt, e_gdtf, e_gdft, e_gdff, e_ift, e_iff, e_not, e_ln, e_lnT, e_cp, e_cvi, e_ex20, e_ex21, e_ex30, e_ex31, e_ex32, e_add, e_sub, e_mul, e_quo, e_rem, e_and, e_or, e_xor, e_shl, e_shr, e_eql, e_neq, e_lss, e_leq, e_gtr, e_geq, e_beq, e_bne, e_peq1, e_peq2, e_pne1, e_pne2, e_zeq1, e_zeq2, e_zne1, e_zne2, e_feq1, e_fne1, e_feq2, e_fne2, e_seq, e_sne, e_ta1, e_ta2, Nat.zero_add, Nat.add_zero, Bool.not_true, Bool.not_false]
    refine ⟨by decide, ?_⟩
    rw [p64_8, Int.fdiv_eq_ediv_of_nonneg _ (by decide)]
    unfold s41_p2
    try simp only [e_fd, e_nck, e_pkt, e_pkf, e_gdtt, e_gdtf, e_gdft, e_gdff, e_ift, e_iff, e_not, e_ln, e_lnT, e_cp, e_cvi, e_ex20, e_ex21, e_ex30, e_ex31, e_ex32, e_add, e_sub, e_mul, e_quo, e_rem, e_and, e_or, e_xor, e_shl, e_shr, e_eql, e_neq, e_lss, e_leq, e_gtr, e_geq, e_beq, e_bne, e_peq1, e_peq2, e_pne1, e_pne2, e_zeq1, e_zeq2, e_zne1, e_zne2, e_feq1, e_fne1, e_feq2, e_fne2, e_seq, e_sne, e_ta1, e_ta2, Nat.zero_add, Nat.add_zero, Bool.not_true, Bool.not_false]
    rw [wrap64_id (by omega) (by omega)]
    refine ⟨col, by omega, _ :: S, _, by omega, by rw [List.length_cons]; omega, fun x hx => ?_, rfl, m2, by omega, by omega, ?_, hk1.trans hk2⟩
    · rcases List.mem_cons.1 hx with q | q
      · omega
      · exact hSb x q
    · rw [tl_step hmn (by omega), ← hv, val, List.length_cons, Int.pow_succ, show n - 1 - col = S.length by omega]
      generalize sumN (fun j => g ys (col + j * n)) m = s at sr ⊢
      have e1 : (c + s) % 256 * 256 ^ S.length + (c + s) / 256 * (256 ^ S.length * 256) = (c + s) * 256 ^ S.length := by
        have : c + s = (c + s) % 256 + (c + s) / 256 * 256 := by omega
        calc (c + s) % 256 * 256 ^ S.length + (c + s) / 256 * (256 ^ S.length * 256)
            = ((c + s) % 256 + (c + s) / 256 * 256) * 256 ^ S.length := by rw [Int.add_mul, Int.mul_comm (256 ^ S.length) 256, Int.mul_assoc]
          _ = (c + s) * 256 ^ S.length := by rw [← this]
      rw [Int.add_mul] at e1
      omega
  · have hp' : ¬ (0 : Int) ≤ ((q : Nat) : Int) - 1 := by omega
    simp only [hp', decide_false, e_fd, e_nck, e_pkt, e_pkf, e_gdtt, e_gdtf, e_gdft, e_gdff, e_ift, e_iff, e_not, e_ln, e_lnT, e_cp, e_cvi, e_ex20, e_ex21, e_ex30, e_ex31, e_ex32, e_add, e_sub, e_mul, e_quo, e_rem, e_and, e_or, e_xor, e_shl, e_shr, e_eql, e_neq, e_lss, e_leq, e_gtr, e_geq, e_beq, e_bne, e_peq1, e_peq2, e_pne1, e_pne2, e_zeq1, e_zeq2, e_zne1, e_zne2, e_feq1, e_fne1, e_feq2, e_fne2, e_seq, e_sne, e_ta1, e_ta2, Nat.zero_add, Nat.add_zero, Bool.not_true, Bool.not_false]
    have hq0 : q = 0 := by omega
    subst hq0
    unfold s41_p1
    rw [List.take_zero, List.nil_append] at m1
    refine bring_ok m1 hc0 (by omega) (fun q => by omega) fun w5 zs m5 hlz hres hk5 hz5 => ?_
    have hSl : S.length = n := by omega
    have hpw := pw_pos n
    obtain ⟨t, ht, hT0, hT1, hT2⟩ := hres
    rw [hSl] at hT0 hv
    have r1 := (val_rng hSb).1
    have hcp : 0 ≤ c * (256 ^ n - 1) := Int.mul_nonneg hc0 (by omega)
    have hcm : c * 256 ^ n = c * (256 ^ n - 1) + c := by rw [Int.mul_sub, Int.mul_one]; omega
    refine hY w5 zs m5 (by omega) ⟨t + c, by omega, ?_, fun q => hT1 ?_, fun q => hT2 ?_⟩ (hk1.trans hk5) (by have := hk1.size; omega)
    · rw [hT, ← hv, Int.add_mul]
      omega
    · rw [hT, ← hv] at q
      rcases Int.lt_or_eq_of_le hc0 with q4 | q4
      · omega
      · rw [← q4] at q ⊢; simp at q; omega
    · rw [hT, ← hv] at q
      omega
end
end Go.Proofs.Qxb6500898a
