import Derived.Test.Qxb6500898aL6
namespace Go.Proofs.Qxb6500898a
open Go.Sh Go.RowKit
set_option linter.unusedVariables false
set_option linter.unusedSimpArgs false

/-! ### the model's functions -/
section
variable {W w w' w0 w2 : World} {v d t wv rv dv t0 t1 t2 : Value} {ob wob wob0 : Option Nat} {mb b e m n i k : Nat} {xs ys zs pr da X Y : List Int} {K : Value → World → Prop} {B1 : List Value → World → Prop} {S S' : Nat → Prop} {L : List Value} {q c z : Int} {little : Bool} {s s' s0 : Mst} {o : Op}
theorem goodM_ok {width : Int} (hK : K (.bool (decide (Wid width))) w) : cl Try.prog 50 #[I width] K w := by
  apply c50
  unfold s50_p1
  try simp only [e_fd, e_nck, e_pkt, e_pkf, e_gdtt, e_gdtf, e_gdft, e_gdff, e_ift, e_iff, e_not, e_ln, e_lnT, e_cp, e_cvi, e_ex20, e_ex21, e_ex30, e_ex31, e_ex32, e_add, e_sub, e_mul, e_quo, e_rem, e_and, e_or, e_xor, e_shl, e_shr, e_eql, e_neq, e_lss, e_leq, e_gtr, e_geq, e_beq, e_bne, e_peq1, e_peq2, e_pne1, e_pne2, e_zeq1, e_zeq2, e_zne1, e_zne2, e_feq1, e_fne1, e_feq2, e_fne2, e_seq, e_sne, e_ta1, e_ta2, Nat.zero_add, Nat.add_zero, Bool.not_true, Bool.not_false]
  by_cases h2 : width = 2
  · have e : (width == 2) = true := by rw [h2]; rfl
    simp only [e, e_fd, e_nck, e_pkt, e_pkf, e_gdtt, e_gdtf, e_gdft, e_gdff, e_ift, e_iff, e_not, e_ln, e_lnT, e_cp, e_cvi, e_ex20, e_ex21, e_ex30, e_ex31, e_ex32, e_add, e_sub, e_mul, e_quo, e_rem, e_and, e_or, e_xor, e_shl, e_shr, e_eql, e_neq, e_lss, e_leq, e_gtr, e_geq, e_beq, e_bne, e_peq1, e_peq2, e_pne1, e_pne2, e_zeq1, e_zeq2, e_zne1, e_zne2, e_feq1, e_fne1, e_feq2, e_fne2, e_seq, e_sne, e_ta1, e_ta2, Nat.zero_add, Nat.add_zero, Bool.not_true, Bool.not_false]
    rw [decide_eq_true (show Wid width from .inl h2)] at hK; exact hK
  have e : (width == 2) = false := by rw [beq_eq_false_iff_ne]; exact h2
  simp only [e, e_fd, e_nck, e_pkt, e_pkf, e_gdtt, e_gdtf, e_gdft, e_gdff, e_ift, e_iff, e_not, e_ln, e_lnT, e_cp, e_cvi, e_ex20, e_ex21, e_ex30, e_ex31, e_ex32, e_add, e_sub, e_mul, e_quo, e_rem, e_and, e_or, e_xor, e_shl, e_shr, e_eql, e_neq, e_lss, e_leq, e_gtr, e_geq, e_beq, e_bne, e_peq1, e_peq2, e_pne1, e_pne2, e_zeq1, e_zeq2, e_zne1, e_zne2, e_feq1, e_fne1, e_feq2, e_fne2, e_seq, e_sne, e_ta1, e_ta2, Nat.zero_add, Nat.add_zero, Bool.not_true, Bool.not_false]
  by_cases h4 : width = 4
  · have e : (width == 4) = true := by rw [h4]; rfl
    simp only [e, e_fd, e_nck, e_pkt, e_pkf, e_gdtt, e_gdtf, e_gdft, e_gdff, e_ift, e_iff, e_not, e_ln, e_lnT, e_cp, e_cvi, e_ex20, e_ex21, e_ex30, e_ex31, e_ex32, e_add, e_sub, e_mul, e_quo, e_rem, e_and, e_or, e_xor, e_shl, e_shr, e_eql, e_neq, e_lss, e_leq, e_gtr, e_geq, e_beq, e_bne, e_peq1, e_peq2, e_pne1, e_pne2, e_zeq1, e_zeq2, e_zne1, e_zne2, e_feq1, e_fne1, e_feq2, e_fne2, e_seq, e_sne, e_ta1, e_ta2, Nat.zero_add, Nat.add_zero, Bool.not_true, Bool.not_false]
    rw [decide_eq_true (show Wid width from .inr (.inl h4))] at hK; exact hK
  have e : (width == 4) = false := by rw [beq_eq_false_iff_ne]; exact h4
  simp only [e, e_fd, e_nck, e_pkt, e_pkf, e_gdtt, e_gdtf, e_gdft, e_gdff, e_ift, e_iff, e_not, e_ln, e_lnT, e_cp, e_cvi, e_ex20, e_ex21, e_ex30, e_ex31, e_ex32, e_add, e_sub, e_mul, e_quo, e_rem, e_and, e_or, e_xor, e_shl, e_shr, e_eql, e_neq, e_lss, e_leq, e_gtr, e_geq, e_beq, e_bne, e_peq1, e_peq2, e_pne1, e_pne2, e_zeq1, e_zeq2, e_zne1, e_zne2, e_feq1, e_fne1, e_feq2, e_fne2, e_seq, e_sne, e_ta1, e_ta2, Nat.zero_add, Nat.add_zero, Bool.not_true, Bool.not_false]
  by_cases h8 : width = 8
  · have e : (width == 8) = true := by rw [h8]; rfl
    simp only [e]
    rw [decide_eq_true (show Wid width from .inr (.inr h8))] at hK; exact hK
  have e : (width == 8) = false := by rw [beq_eq_false_iff_ne]; exact h8
  simp only [e]
  rw [decide_eq_false (show ¬ Wid width by unfold Wid; omega)] at hK; exact hK
theorem p8_le {i : Nat} (hi : i ≤ 8) : (256 : Int) ^ i ≤ 18446744073709551616 := by
  have : i = 0 ∨ i = 1 ∨ i = 2 ∨ i = 3 ∨ i = 4 ∨ i = 5 ∨ i = 6 ∨ i = 7 ∨ i = 8 := by omega
  rcases this with rfl | rfl | rfl | rfl | rfl | rfl | rfl | rfl | rfl <;> decide
theorem val_take (hb : By xs) (hi : i < xs.length) : val (xs.take i) * 256 + xs[i] = val (xs.take (i + 1)) := by
  rw [List.take_succ_eq_append_getElem hi, val_app]
  simp [val]
/-- a number out of its octets, as the model has it -/
def numE (little : Bool) (xs : List Int) : Int := if little then val xs.reverse else val xs
theorem number_ok (h : Bs w v xs) (hl : xs.length ≤ 8) (hK : K (.int .u64 (numE little xs)) w) : cl Try.prog 52 #[v, .bool little] K w := by
  have hb : By xs := h.by_
  have hbr : By xs.reverse := fun x hx => hb x (List.mem_reverse.1 hx)
  have hlr : xs.reverse.length = xs.length := List.length_reverse
  apply c52
  unfold s52_p5
  refine h.ln ?_
  unfold s52_p4
  refine ⟨fun n l w' => w' = w ∧ ∃ i : Nat, n + i = xs.length ∧ l = [v, .bool little, .int .u64 (val ((if little then xs.reverse else xs).take i)), I xs.length, I (i : Nat)], xs.length, ⟨rfl, 0, rfl, rfl⟩, ?_⟩
  rintro n l w1 ⟨rfl, i, hn, rfl⟩
  rw [s52_p4_Fe]
  unfold s52_p3
  try simp only [e_fd, e_nck, e_pkt, e_pkf, e_gdtt, e_gdtf, e_gdft, e_gdff, e_ift, e_iff, e_not, e_ln, e_lnT, e_cp, e_cvi, e_ex20, e_ex21, e_ex30, e_ex31, e_ex32, e_add, e_sub, e_mul, e_quo, e_rem, e_and, e_or, e_xor, e_shl, e_shr, e_eql, e_neq, e_lss, e_leq, e_gtr, e_geq, e_beq, e_bne, e_peq1, e_peq2, e_pne1, e_pne2, e_zeq1, e_zeq2, e_zne1, e_zne2, e_feq1, e_fne1, e_feq2, e_fne2, e_seq, e_sne, e_ta1, e_ta2, Nat.zero_add, Nat.add_zero, Bool.not_true, Bool.not_false]
  by_cases hi : i < xs.length
  · have hi' : ((i : Nat) : Int) < ((xs.length : Nat) : Int) := by omega
    simp only [hi', decide_true, e_fd, e_nck, e_pkt, e_pkf, e_gdtt, e_gdtf, e_gdft, e_gdff, e_ift, e_iff, e_not, e_ln, e_lnT, e_cp, e_cvi, e_ex20, e_ex21, e_ex30, e_ex31, e_ex32, e_add, e_sub, e_mul, e_quo, e_rem, e_and, e_or, e_xor, e_shl, e_shr, e_eql, e_neq, e_lss, e_leq, e_gtr, e_geq, e_beq, e_bne, e_peq1, e_peq2, e_pne1, e_pne2, e_zeq1, e_zeq2, e_zne1, e_zne2, e_feq1, e_fne1, e_feq2, e_fne2, e_seq, e_sne, e_ta1, e_ta2, Nat.zero_add, Nat.add_zero, Bool.not_true, Bool.not_false]
    have hp := p8_le (i := i + 1) (by omega)
    rw [Int.pow_succ] at hp
    cases little with
    | true =>
      simp only [if_true, e_fd, e_nck, e_pkt, e_pkf, e_gdtt, e_gdtf, e_gdft, e_gdff, e_ift, e_iff, e_not, e_ln, e_lnT, e_cp, e_cvi, e_ex20, e_ex21, e_ex30, e_ex31, e_ex32, e_add, e_sub, e_mul, e_quo, e_rem, e_and, e_or, e_xor, e_shl, e_shr, e_eql, e_neq, e_lss, e_leq, e_gtr, e_geq, e_beq, e_bne, e_peq1, e_peq2, e_pne1, e_pne2, e_zeq1, e_zeq2, e_zne1, e_zne2, e_feq1, e_fne1, e_feq2, e_fne2, e_seq, e_sne, e_ta1, e_ta2, Nat.zero_add, Nat.add_zero, Bool.not_true, Bool.not_false]
      have r := val_rng (hbr.take i)
      rw [List.length_take, Nat.min_eq_left (by omega)] at r
      refine h.ln ?_
      try simp only [e_fd, e_nck, e_pkt, e_pkf, e_gdtt, e_gdtf, e_gdft, e_gdff, e_ift, e_iff, e_not, e_ln, e_lnT, e_cp, e_cvi, e_ex20, e_ex21, e_ex30, e_ex31, e_ex32, e_add, e_sub, e_mul, e_quo, e_rem, e_and, e_or, e_xor, e_shl, e_shr, e_eql, e_neq, e_lss, e_leq, e_gtr, e_geq, e_beq, e_bne, e_peq1, e_peq2, e_pne1, e_pne2, e_zeq1, e_zeq2, e_zne1, e_zne2, e_feq1, e_fne1, e_feq2, e_fne2, e_seq, e_sne, e_ta1, e_ta2, Nat.zero_add, Nat.add_zero, Bool.not_true, Bool.not_false]
      rw [wrap64_id (n := ((xs.length : Nat) : Int) - 1) (by omega) (by omega), wrap64_id (by omega) (by omega)]
      refine h.ixg (xs.length - 1 - i) (by omega) (by omega) fun b' q' hld => hld _ ?_
      try simp only [e_fd, e_nck, e_pkt, e_pkf, e_gdtt, e_gdtf, e_gdft, e_gdff, e_ift, e_iff, e_not, e_ln, e_lnT, e_cp, e_cvi, e_ex20, e_ex21, e_ex30, e_ex31, e_ex32, e_add, e_sub, e_mul, e_quo, e_rem, e_and, e_or, e_xor, e_shl, e_shr, e_eql, e_neq, e_lss, e_leq, e_gtr, e_geq, e_beq, e_bne, e_peq1, e_peq2, e_pne1, e_pne2, e_zeq1, e_zeq2, e_zne1, e_zne2, e_feq1, e_fne1, e_feq2, e_fne2, e_seq, e_sne, e_ta1, e_ta2, Nat.zero_add, Nat.add_zero, Bool.not_true, Bool.not_false]
      have gx := h.gb (xs.length - 1 - i)
      have eg : g xs (xs.length - 1 - i) = xs.reverse[i]'(by omega) := by
        rw [List.getElem_reverse, g_get]
      have vt := val_take (i := i) hbr (by omega)
      rw [← eg] at vt
      generalize (256 : Int) ^ i = P at r hp
      rw [wrapu64 (g xs (xs.length - 1 - i)), Int.emod_eq_of_lt gx.1 (by omega), wrapu64 (val (xs.reverse.take i) * 256), Int.emod_eq_of_lt (by omega) (by omega), wrapu64, Int.emod_eq_of_lt (by omega) (by omega), vt]
      unfold s52_p2
      try simp only [e_fd, e_nck, e_pkt, e_pkf, e_gdtt, e_gdtf, e_gdft, e_gdff, e_ift, e_iff, e_not, e_ln, e_lnT, e_cp, e_cvi, e_ex20, e_ex21, e_ex30, e_ex31, e_ex32, e_add, e_sub, e_mul, e_quo, e_rem, e_and, e_or, e_xor, e_shl, e_shr, e_eql, e_neq, e_lss, e_leq, e_gtr, e_geq, e_beq, e_bne, e_peq1, e_peq2, e_pne1, e_pne2, e_zeq1, e_zeq2, e_zne1, e_zne2, e_feq1, e_fne1, e_feq2, e_fne2, e_seq, e_sne, e_ta1, e_ta2, Nat.zero_add, Nat.add_zero, Bool.not_true, Bool.not_false]
      rw [wrap64_id (by omega) (by omega)]
      exact ⟨n - 1, by omega, trivial, i + 1, by omega, by simp⟩
    | false =>
      simp only [Bool.false_eq_true, if_false, e_fd, e_nck, e_pkt, e_pkf, e_gdtt, e_gdtf, e_gdft, e_gdff, e_ift, e_iff, e_not, e_ln, e_lnT, e_cp, e_cvi, e_ex20, e_ex21, e_ex30, e_ex31, e_ex32, e_add, e_sub, e_mul, e_quo, e_rem, e_and, e_or, e_xor, e_shl, e_shr, e_eql, e_neq, e_lss, e_leq, e_gtr, e_geq, e_beq, e_bne, e_peq1, e_peq2, e_pne1, e_pne2, e_zeq1, e_zeq2, e_zne1, e_zne2, e_feq1, e_fne1, e_feq2, e_fne2, e_seq, e_sne, e_ta1, e_ta2, Nat.zero_add, Nat.add_zero, Bool.not_true, Bool.not_false]
      have r := val_rng (hb.take i)
      rw [List.length_take, Nat.min_eq_left (by omega)] at r
      refine h.ixg i rfl hi fun b' q' hld => hld _ ?_
      try simp only [e_fd, e_nck, e_pkt, e_pkf, e_gdtt, e_gdtf, e_gdft, e_gdff, e_ift, e_iff, e_not, e_ln, e_lnT, e_cp, e_cvi, e_ex20, e_ex21, e_ex30, e_ex31, e_ex32, e_add, e_sub, e_mul, e_quo, e_rem, e_and, e_or, e_xor, e_shl, e_shr, e_eql, e_neq, e_lss, e_leq, e_gtr, e_geq, e_beq, e_bne, e_peq1, e_peq2, e_pne1, e_pne2, e_zeq1, e_zeq2, e_zne1, e_zne2, e_feq1, e_fne1, e_feq2, e_fne2, e_seq, e_sne, e_ta1, e_ta2, Nat.zero_add, Nat.add_zero, Bool.not_true, Bool.not_false]
      have gx := h.gb i
      have vt := val_take (i := i) hb (by omega)
      rw [← g_get hi] at vt
      generalize (256 : Int) ^ i = P at r hp
      rw [wrapu64 (g xs i), Int.emod_eq_of_lt gx.1 (by omega), wrapu64 (val (xs.take i) * 256), Int.emod_eq_of_lt (by omega) (by omega), wrapu64, Int.emod_eq_of_lt (by omega) (by omega), vt]
      unfold s52_p2
      try simp only [e_fd, e_nck, e_pkt, e_pkf, e_gdtt, e_gdtf, e_gdft, e_gdff, e_ift, e_iff, e_not, e_ln, e_lnT, e_cp, e_cvi, e_ex20, e_ex21, e_ex30, e_ex31, e_ex32, e_add, e_sub, e_mul, e_quo, e_rem, e_and, e_or, e_xor, e_shl, e_shr, e_eql, e_neq, e_lss, e_leq, e_gtr, e_geq, e_beq, e_bne, e_peq1, e_peq2, e_pne1, e_pne2, e_zeq1, e_zeq2, e_zne1, e_zne2, e_feq1, e_fne1, e_feq2, e_fne2, e_seq, e_sne, e_ta1, e_ta2, Nat.zero_add, Nat.add_zero, Bool.not_true, Bool.not_false]
      rw [wrap64_id (by omega) (by omega)]
      exact ⟨n - 1, by omega, trivial, i + 1, by omega, by simp⟩
  · have hi' : ¬ ((i : Nat) : Int) < ((xs.length : Nat) : Int) := by omega
    simp only [hi', decide_false, e_fd, e_nck, e_pkt, e_pkf, e_gdtt, e_gdtf, e_gdft, e_gdff, e_ift, e_iff, e_not, e_ln, e_lnT, e_cp, e_cvi, e_ex20, e_ex21, e_ex30, e_ex31, e_ex32, e_add, e_sub, e_mul, e_quo, e_rem, e_and, e_or, e_xor, e_shl, e_shr, e_eql, e_neq, e_lss, e_leq, e_gtr, e_geq, e_beq, e_bne, e_peq1, e_peq2, e_pne1, e_pne2, e_zeq1, e_zeq2, e_zne1, e_zne2, e_feq1, e_fne1, e_feq2, e_fne2, e_seq, e_sne, e_ta1, e_ta2, Nat.zero_add, Nat.add_zero, Bool.not_true, Bool.not_false]
    unfold s52_p1
    unfold numE at hK
    cases little with
    | true =>
      simp only [if_true] at hK ⊢
      rw [List.take_of_length_le (by omega)]
      exact hK
    | false =>
      simp only [Bool.false_eq_true, if_false] at hK ⊢
      rw [List.take_of_length_le (by omega)]
      exact hK
theorem g_take {j : Nat} (hj : j < n) : g (xs.take n) j = g xs j := by
  unfold g; rw [List.getD_eq_getElem?_getD, List.getD_eq_getElem?_getD, List.getElem?_take_of_lt hj]
theorem num_dec {width : Int} (hw : Wid width) (hl : (xs.length : Int) = width) : numE little xs = dec2 width little xs := by
  rcases hw with rfl | rfl | rfl
  · match xs, hl with
    | [a, b], _ => cases little <;> simp [numE, dec2, le2n, be2, val, g]
  · match xs, hl with
    | [a, b, c, d], _ => cases little <;> (simp [numE, dec2, le4, be4, val, g]; omega)
  · match xs, hl with
    | [a, b, c, d, e, f, g', h], _ => cases little <;> (simp [numE, dec2, le8, be8, val, g]; omega)
theorem dec_take {width : Int} (hw : Wid width) : dec2 width little (xs.take width.toNat) = dec2 width little xs := by
  rcases hw with rfl | rfl | rfl
  · have e : ((2 : Int)).toNat = 2 := rfl
    unfold dec2 le2n be2
    simp only [e, g_take (show 0 < 2 by decide), g_take (show 1 < 2 by decide)]
    rfl
  · have e : ((4 : Int)).toNat = 4 := rfl
    unfold dec2 le4 be4
    simp only [e, g_take (show 0 < 4 by decide), g_take (show 1 < 4 by decide), g_take (show 2 < 4 by decide), g_take (show 3 < 4 by decide)]
    rfl
  · have e : ((8 : Int)).toNat = 8 := rfl
    unfold dec2 le8 be8
    simp only [e, g_take (show 0 < 8 by decide), g_take (show 1 < 8 by decide), g_take (show 2 < 8 by decide), g_take (show 3 < 8 by decide), g_take (show 4 < 8 by decide), g_take (show 5 < 8 by decide), g_take (show 6 < 8 by decide), g_take (show 7 < 8 by decide)]
    rfl
/-- a part of a slice -/
theorem Bs.midZ (h : Bs w v xs) {a : Nat} {i1 i2 : Int} (h1 : i1 = (a : Int)) (h2 : i2 = ((a + n : Nat) : Int)) (hn : a + n ≤ xs.length) (h0 : 0 < xs.length) (hK : ∀ v', (∀ w2, Bs w2 v xs → Bs w2 v' ((xs.drop a).take n)) → K v' w2) : sls 1 v (some (.int .i64 i1)) (some (.int .i64 i2)) K w2 := by
  subst h1; subst h2
  rcases h.at_ with ⟨rfl, rfl⟩ | ⟨ad, cap, rfl, rfl⟩ | ⟨b, o, cap, rfl, h1, h2, hc⟩
  · simp at h0
  · simp at h0
  · refine ⟨⟨by omega, by omega, by omega⟩, ?_⟩
    have e0 : ((a : Int)).toNat = a := by omega
    have e2 : (((a + n : Nat) : Int)).toNat = a + n := by omega
    simp only [e0, e2]
    have hlen : ((xs.drop a).take n).length = n := by rw [List.length_take, List.length_drop]; omega
    refine hK _ fun w2 h2' => ⟨fun x hx => h.by_ x (List.mem_of_mem_drop (List.mem_of_mem_take hx)), ?_⟩
    by_cases hz : n = 0
    · have hd : (xs.drop a).take n = [] := List.eq_nil_of_length_eq_zero (by omega)
      rw [hd]
      refine .inr (.inl ?_)
      have hl0 : a + n - a = 0 := by omega
      by_cases hcn : cap = a
      · rw [if_pos hcn]; exact ⟨⟨b, o, none⟩, cap - a, by rw [hl0], rfl⟩
      · rw [if_neg hcn]; exact ⟨(⟨b, o, none⟩ : Addr).add (a * 1), cap - a, by rw [hl0]; rfl, rfl⟩
    · rw [if_neg (by omega), Option.map_some, add_mk, Nat.mul_one]
      rcases h2'.at_ with ⟨q, _⟩ | ⟨a', c', q1, q2⟩ | ⟨b', o', c', q1, _, _, q4⟩
      · cases q
      · rw [q2] at h0; simp at h0
      · cases q1
        refine .inr (.inr ⟨b, o + a, cap - a, by rw [hlen]; congr 1; omega, by omega, by omega, ?_⟩)
        intro j hj
        rw [List.length_map, hlen] at hj
        rw [Nat.add_assoc, q4 (a + j) (by rw [List.length_map]; omega), List.getElem?_map, List.getElem?_map, List.getElem?_take_of_lt (by omega), List.getElem?_drop]
/-- the model's folding -/
theorem fold_ok (h1 : Bs w t1 ys) (hn : n ≤ 100000000000) (hyl : ys.length ≤ 100000000000) (hN : (n = 0 ∨ ys.length = 0 ∨ ys.length % n ≠ 0) → K (.tuple #[.slice none 0 0, .bool false]) w)
    (hY : ¬ (n = 0 ∨ ys.length = 0 ∨ ys.length % n ≠ 0) → ∀ w' b v zs, Sl u1 1 w' 5 (some b) v zs → w.heap.size ≤ b → By zs → zs.length = n → Res n (foldT ys n) (val zs) → Kp (fun _ => False) w w' → K (.tuple #[v, .bool true]) w') : cl Try.prog 56 #[I (n : Nat), t1] K w := by
  have hy : By ys := h1.by_
  apply c56
  unfold s56_p4
  try simp only [e_fd, e_nck, e_pkt, e_pkf, e_gdtt, e_gdtf, e_gdft, e_gdff, e_ift, e_iff, e_not, e_ln, e_lnT, e_cp, e_cvi, e_ex20, e_ex21, e_ex30, e_ex31, e_ex32, e_add, e_sub, e_mul, e_quo, e_rem, e_and, e_or, e_xor, e_shl, e_shr, e_eql, e_neq, e_lss, e_leq, e_gtr, e_geq, e_beq, e_bne, e_peq1, e_peq2, e_pne1, e_pne2, e_zeq1, e_zeq2, e_zne1, e_zne2, e_feq1, e_fne1, e_feq2, e_fne2, e_seq, e_sne, e_ta1, e_ta2, Nat.zero_add, Nat.add_zero, Bool.not_true, Bool.not_false]
  by_cases a0 : n = 0
  · have e : ((n : Nat) : Int) ≤ 0 := by omega
    simp only [e, decide_true, e_fd, e_nck, e_pkt, e_pkf, e_gdtt, e_gdtf, e_gdft, e_gdff, e_ift, e_iff, e_not, e_ln, e_lnT, e_cp, e_cvi, e_ex20, e_ex21, e_ex30, e_ex31, e_ex32, e_add, e_sub, e_mul, e_quo, e_rem, e_and, e_or, e_xor, e_shl, e_shr, e_eql, e_neq, e_lss, e_leq, e_gtr, e_geq, e_beq, e_bne, e_peq1, e_peq2, e_pne1, e_pne2, e_zeq1, e_zeq2, e_zne1, e_zne2, e_feq1, e_fne1, e_feq2, e_fne2, e_seq, e_sne, e_ta1, e_ta2, Nat.zero_add, Nat.add_zero, Bool.not_true, Bool.not_false]
    exact hN (.inl a0)
  have e : ¬ ((n : Nat) : Int) ≤ 0 := by omega
  simp only [e, decide_false, e_fd, e_nck, e_pkt, e_pkf, e_gdtt, e_gdtf, e_gdft, e_gdff, e_ift, e_iff, e_not, e_ln, e_lnT, e_cp, e_cvi, e_ex20, e_ex21, e_ex30, e_ex31, e_ex32, e_add, e_sub, e_mul, e_quo, e_rem, e_and, e_or, e_xor, e_shl, e_shr, e_eql, e_neq, e_lss, e_leq, e_gtr, e_geq, e_beq, e_bne, e_peq1, e_peq2, e_pne1, e_pne2, e_zeq1, e_zeq2, e_zne1, e_zne2, e_feq1, e_fne1, e_feq2, e_fne2, e_seq, e_sne, e_ta1, e_ta2, Nat.zero_add, Nat.add_zero, Bool.not_true, Bool.not_false]
  refine h1.ln ?_
  try simp only [e_fd, e_nck, e_pkt, e_pkf, e_gdtt, e_gdtf, e_gdft, e_gdff, e_ift, e_iff, e_not, e_ln, e_lnT, e_cp, e_cvi, e_ex20, e_ex21, e_ex30, e_ex31, e_ex32, e_add, e_sub, e_mul, e_quo, e_rem, e_and, e_or, e_xor, e_shl, e_shr, e_eql, e_neq, e_lss, e_leq, e_gtr, e_geq, e_beq, e_bne, e_peq1, e_peq2, e_pne1, e_pne2, e_zeq1, e_zeq2, e_zne1, e_zne2, e_feq1, e_fne1, e_feq2, e_fne2, e_seq, e_sne, e_ta1, e_ta2, Nat.zero_add, Nat.add_zero, Bool.not_true, Bool.not_false]
  by_cases a1 : ys.length = 0
  · have e : (((ys.length : Nat) : Int) == 0) = true := by rw [a1]; rfl
    simp only [e, e_fd, e_nck, e_pkt, e_pkf, e_gdtt, e_gdtf, e_gdft, e_gdff, e_ift, e_iff, e_not, e_ln, e_lnT, e_cp, e_cvi, e_ex20, e_ex21, e_ex30, e_ex31, e_ex32, e_add, e_sub, e_mul, e_quo, e_rem, e_and, e_or, e_xor, e_shl, e_shr, e_eql, e_neq, e_lss, e_leq, e_gtr, e_geq, e_beq, e_bne, e_peq1, e_peq2, e_pne1, e_pne2, e_zeq1, e_zeq2, e_zne1, e_zne2, e_feq1, e_fne1, e_feq2, e_fne2, e_seq, e_sne, e_ta1, e_ta2, Nat.zero_add, Nat.add_zero, Bool.not_true, Bool.not_false]
    exact hN (.inr (.inl a1))
  have e : (((ys.length : Nat) : Int) == 0) = false := by rw [beq_eq_false_iff_ne]; omega
  simp only [e, e_fd, e_nck, e_pkt, e_pkf, e_gdtt, e_gdtf, e_gdft, e_gdff, e_ift, e_iff, e_not, e_ln, e_lnT, e_cp, e_cvi, e_ex20, e_ex21, e_ex30, e_ex31, e_ex32, e_add, e_sub, e_mul, e_quo, e_rem, e_and, e_or, e_xor, e_shl, e_shr, e_eql, e_neq, e_lss, e_leq, e_gtr, e_geq, e_beq, e_bne, e_peq1, e_peq2, e_pne1, e_pne2, e_zeq1, e_zeq2, e_zne1, e_zne2, e_feq1, e_fne1, e_feq2, e_fne2, e_seq, e_sne, e_ta1, e_ta2, Nat.zero_add, Nat.add_zero, Bool.not_true, Bool.not_false]
  refine h1.ln ?_
  try simp only [e_fd, e_nck, e_pkt, e_pkf, e_gdtt, e_gdtf, e_gdft, e_gdff, e_ift, e_iff, e_not, e_ln, e_lnT, e_cp, e_cvi, e_ex20, e_ex21, e_ex30, e_ex31, e_ex32, e_add, e_sub, e_mul, e_quo, e_rem, e_and, e_or, e_xor, e_shl, e_shr, e_eql, e_neq, e_lss, e_leq, e_gtr, e_geq, e_beq, e_bne, e_peq1, e_peq2, e_pne1, e_pne2, e_zeq1, e_zeq2, e_zne1, e_zne2, e_feq1, e_fne1, e_feq2, e_fne2, e_seq, e_sne, e_ta1, e_ta2, Nat.zero_add, Nat.add_zero, Bool.not_true, Bool.not_false]
  refine ⟨by omega, ?_⟩
  have em : ((ys.length : Nat) : Int).tmod ((n : Nat) : Int) = ((ys.length % n : Nat) : Int) := by rw [Int.tmod_eq_emod_of_nonneg (by omega)]; rfl
  rw [em]
  by_cases a2 : ys.length % n ≠ 0
  · have e : (((ys.length % n : Nat) : Int) != 0) = true := by rw [bne_iff_ne]; omega
    simp only [e, e_fd, e_nck, e_pkt, e_pkf, e_gdtt, e_gdtf, e_gdft, e_gdff, e_ift, e_iff, e_not, e_ln, e_lnT, e_cp, e_cvi, e_ex20, e_ex21, e_ex30, e_ex31, e_ex32, e_add, e_sub, e_mul, e_quo, e_rem, e_and, e_or, e_xor, e_shl, e_shr, e_eql, e_neq, e_lss, e_leq, e_gtr, e_geq, e_beq, e_bne, e_peq1, e_peq2, e_pne1, e_pne2, e_zeq1, e_zeq2, e_zne1, e_zne2, e_feq1, e_fne1, e_feq2, e_fne2, e_seq, e_sne, e_ta1, e_ta2, Nat.zero_add, Nat.add_zero, Bool.not_true, Bool.not_false]
    exact hN (.inr (.inr a2))
  have a2' : ys.length % n = 0 := Decidable.not_not.1 a2
  have e : (((ys.length % n : Nat) : Int) != 0) = false := by rw [a2']; rfl
  simp only [e, e_fd, e_nck, e_pkt, e_pkf, e_gdtt, e_gdtf, e_gdft, e_gdff, e_ift, e_iff, e_not, e_ln, e_lnT, e_cp, e_cvi, e_ex20, e_ex21, e_ex30, e_ex31, e_ex32, e_add, e_sub, e_mul, e_quo, e_rem, e_and, e_or, e_xor, e_shl, e_shr, e_eql, e_neq, e_lss, e_leq, e_gtr, e_geq, e_beq, e_bne, e_peq1, e_peq2, e_pne1, e_pne2, e_zeq1, e_zeq2, e_zne1, e_zne2, e_feq1, e_fne1, e_feq2, e_fne2, e_seq, e_sne, e_ta1, e_ta2, Nat.zero_add, Nat.add_zero, Bool.not_true, Bool.not_false]
  have hY := hY (by rintro (q | q | q) <;> omega)
  obtain ⟨m, hm⟩ : ∃ m, ys.length = m * n := ⟨ys.length / n, (Nat.div_mul_cancel (Nat.dvd_of_mod_eq_zero a2')).symm⟩
  have hm0 : 0 < m := by
    rcases Nat.eq_zero_or_pos m with q | q
    · rw [q, Nat.zero_mul] at hm; omega
    · exact q
  have hn0 : 0 < n := by omega
  have hmd : ys.length / n = m := by rw [hm]; exact Nat.mul_div_cancel _ hn0
  have le1 : n ≤ ys.length := by rw [hm]; exact Nat.le_mul_of_pos_left n hm0
  refine h1.takeZ (n := n) rfl le1 fun v1 hv1 => ?_
  have htl : (ys.take n).length = n := by rw [List.length_take]; omega
  refine copy_ok (hv1 w h1) (by omega) fun w1 b1 v2 s1 hb1 hk1 => ?_
  unfold foldT at hY
  rw [hmd] at hY
  have p0 : pce ys n 0 = ys.take n := by unfold pce; rw [Nat.zero_mul, List.drop_zero]
  unfold s56_p3
  refine ⟨fun k l w' => ∃ (j b : Nat) (v6 : Value) (aa : List Int), k + j = m ∧ 1 ≤ j ∧ l = [I (n : Nat), t1, v6, I ((j * n : Nat) : Int)] ∧ Sl u1 1 w' 5 (some b) v6 aa ∧ w.heap.size ≤ b ∧ By aa ∧ aa.length = n ∧ Res n (sumN (fun i => val (pce ys n i)) j) (val aa) ∧ Kp (fun _ => False) w w', m - 1, ⟨1, b1, v2, ys.take n, by omega, Nat.le_refl _, by rw [Nat.one_mul], s1, hb1, hy.take n, htl, ?_, hk1⟩, ?_⟩
  · simp only [sumN, p0, Int.zero_add]
    exact Res.refl
  rintro k l w2 ⟨j, b, v6, aa, hkj, hj1, rfl, s2, hb, bya, la, res, hk2⟩
  rw [s56_p3_Fe]
  unfold s56_p2
  refine (h1.kp' hk2).ln ?_
  try simp only [e_fd, e_nck, e_pkt, e_pkf, e_gdtt, e_gdtf, e_gdft, e_gdff, e_ift, e_iff, e_not, e_ln, e_lnT, e_cp, e_cvi, e_ex20, e_ex21, e_ex30, e_ex31, e_ex32, e_add, e_sub, e_mul, e_quo, e_rem, e_and, e_or, e_xor, e_shl, e_shr, e_eql, e_neq, e_lss, e_leq, e_gtr, e_geq, e_beq, e_bne, e_peq1, e_peq2, e_pne1, e_pne2, e_zeq1, e_zeq2, e_zne1, e_zne2, e_feq1, e_fne1, e_feq2, e_fne2, e_seq, e_sne, e_ta1, e_ta2, Nat.zero_add, Nat.add_zero, Bool.not_true, Bool.not_false]
  by_cases hj : j < m
  · have hjn : j * n + n ≤ ys.length := by rw [hm, ← Nat.succ_mul]; exact Nat.mul_le_mul_right n hj
    have hj' : ((j * n : Nat) : Int) < ((ys.length : Nat) : Int) := by omega
    simp only [hj', decide_true, e_fd, e_nck, e_pkt, e_pkf, e_gdtt, e_gdtf, e_gdft, e_gdff, e_ift, e_iff, e_not, e_ln, e_lnT, e_cp, e_cvi, e_ex20, e_ex21, e_ex30, e_ex31, e_ex32, e_add, e_sub, e_mul, e_quo, e_rem, e_and, e_or, e_xor, e_shl, e_shr, e_eql, e_neq, e_lss, e_leq, e_gtr, e_geq, e_beq, e_bne, e_peq1, e_peq2, e_pne1, e_pne2, e_zeq1, e_zeq2, e_zne1, e_zne2, e_feq1, e_fne1, e_feq2, e_fne2, e_seq, e_sne, e_ta1, e_ta2, Nat.zero_add, Nat.add_zero, Bool.not_true, Bool.not_false]
    rw [wrap64_id (by omega) (by omega)]
    refine (h1.kp' hk2).midZ (a := j * n) (n := n) rfl (by omega) hjn (by omega) fun v3 hv3 => ?_
    have hpl : (pce ys n j).length = n := by unfold pce; rw [List.length_take, List.length_drop]; omega
    refine add_ok (sl_bs s2 bya (by omega)) (hv3 w2 (h1.kp' hk2)) (by omega) (by show (pce ys n j).length ≤ _; omega) (fun q => absurd (by rw [la]; exact hpl.symm) q) fun _ w3 b3 v4 zs s3 hb3 bz lz res3 hk3 => ?_
    try simp only [e_fd, e_nck, e_pkt, e_pkf, e_gdtt, e_gdtf, e_gdft, e_gdff, e_ift, e_iff, e_not, e_ln, e_lnT, e_cp, e_cvi, e_ex20, e_ex21, e_ex30, e_ex31, e_ex32, e_add, e_sub, e_mul, e_quo, e_rem, e_and, e_or, e_xor, e_shl, e_shr, e_eql, e_neq, e_lss, e_leq, e_gtr, e_geq, e_beq, e_bne, e_peq1, e_peq2, e_pne1, e_pne2, e_zeq1, e_zeq2, e_zne1, e_zne2, e_feq1, e_fne1, e_feq2, e_fne2, e_seq, e_sne, e_ta1, e_ta2, Nat.zero_add, Nat.add_zero, Bool.not_true, Bool.not_false]
    have sz := hk2.size
    rw [la] at lz res3
    have rm := res.more res3 (val_rng bya).1 (val_rng (show By (pce ys n j) from (hy.drop _).take _)).1
    refine ⟨k - 1, by omega, j + 1, b3, v4, zs, by omega, by omega, ?_, s3, by omega, bz, lz, rm, hk2.trans hk3⟩
    rw [show ((j * n : Nat) : Int) + ((n : Nat) : Int) = (((j + 1) * n : Nat) : Int) by rw [Nat.succ_mul]; omega]
  · have hjm : j = m := by omega
    subst hjm
    have hj' : ¬ ((j * n : Nat) : Int) < ((ys.length : Nat) : Int) := by omega
    simp only [hj', decide_false, e_fd, e_nck, e_pkt, e_pkf, e_gdtt, e_gdtf, e_gdft, e_gdff, e_ift, e_iff, e_not, e_ln, e_lnT, e_cp, e_cvi, e_ex20, e_ex21, e_ex30, e_ex31, e_ex32, e_add, e_sub, e_mul, e_quo, e_rem, e_and, e_or, e_xor, e_shl, e_shr, e_eql, e_neq, e_lss, e_leq, e_gtr, e_geq, e_beq, e_bne, e_peq1, e_peq2, e_pne1, e_pne2, e_zeq1, e_zeq2, e_zne1, e_zne2, e_feq1, e_fne1, e_feq2, e_fne2, e_seq, e_sne, e_ta1, e_ta2, Nat.zero_add, Nat.add_zero, Bool.not_true, Bool.not_false]
    unfold s56_p1
    exact hY w2 b v6 aa s2 hb bya la res hk2
/-- the model's exclusive or -/
theorem xorM_ok (h0 : Bs w t0 xs) (h1 : Bs w t1 ys) (hxl : xs.length ≤ 100000000000) (hyl : ys.length ≤ 100000000000)
    (hK : ∀ w' b v, Sl u1 1 w' 5 (some b) v (xorP xs ys (min xs.length ys.length)) → w.heap.size ≤ b → Kp (fun _ => False) w w' → K (.tuple #[v, I (min xs.length ys.length : Nat)]) w') : cl Try.prog 57 #[t0, t1] K w := by
  apply c57
  unfold s57_p7
  refine copy_ok h0 (by omega) fun w1 b1 v1 s1 hb1 hk1 => ?_
  obtain ⟨junk, m1, back⟩ := Mv.of s1 h0.by_ (by omega)
  unfold s57_p6
  refine ⟨fun n l w' => ∃ i : Nat, n + i = min xs.length ys.length ∧ l = [t0, t1, v1, I (i : Nat), I (i : Nat)] ∧ Mv w' v1 (some b1) 0 (xorP xs ys i) [] junk ∧ Kp (fun _ => False) w w', min xs.length ys.length, ⟨0, rfl, rfl, by rw [xorP_0]; exact m1, hk1⟩, ?_⟩
  rintro n l w2 ⟨i, hn, rfl, m2, hk2⟩
  rw [s57_p6_Fe]
  unfold s57_p5
  have hxl2 := xorP_len xs ys i
  refine (h0.kp' hk2).ln ?_
  try simp only [e_fd, e_nck, e_pkt, e_pkf, e_gdtt, e_gdtf, e_gdft, e_gdff, e_ift, e_iff, e_not, e_ln, e_lnT, e_cp, e_cvi, e_ex20, e_ex21, e_ex30, e_ex31, e_ex32, e_add, e_sub, e_mul, e_quo, e_rem, e_and, e_or, e_xor, e_shl, e_shr, e_eql, e_neq, e_lss, e_leq, e_gtr, e_geq, e_beq, e_bne, e_peq1, e_peq2, e_pne1, e_pne2, e_zeq1, e_zeq2, e_zne1, e_zne2, e_feq1, e_fne1, e_feq2, e_fne2, e_seq, e_sne, e_ta1, e_ta2, Nat.zero_add, Nat.add_zero, Bool.not_true, Bool.not_false]
  by_cases hi : i < min xs.length ys.length
  · have hi' : ((i : Nat) : Int) < ((xs.length : Nat) : Int) := by omega
    simp only [hi', decide_true, e_fd, e_nck, e_pkt, e_pkf, e_gdtt, e_gdtf, e_gdft, e_gdff, e_ift, e_iff, e_not, e_ln, e_lnT, e_cp, e_cvi, e_ex20, e_ex21, e_ex30, e_ex31, e_ex32, e_add, e_sub, e_mul, e_quo, e_rem, e_and, e_or, e_xor, e_shl, e_shr, e_eql, e_neq, e_lss, e_leq, e_gtr, e_geq, e_beq, e_bne, e_peq1, e_peq2, e_pne1, e_pne2, e_zeq1, e_zeq2, e_zne1, e_zne2, e_feq1, e_fne1, e_feq2, e_fne2, e_seq, e_sne, e_ta1, e_ta2, Nat.zero_add, Nat.add_zero, Bool.not_true, Bool.not_false]
    refine (h1.kp' hk2).ln ?_
    have hi2 : ((i : Nat) : Int) < ((ys.length : Nat) : Int) := by omega
    simp only [hi2, decide_true, e_fd, e_nck, e_pkt, e_pkf, e_gdtt, e_gdtf, e_gdft, e_gdff, e_ift, e_iff, e_not, e_ln, e_lnT, e_cp, e_cvi, e_ex20, e_ex21, e_ex30, e_ex31, e_ex32, e_add, e_sub, e_mul, e_quo, e_rem, e_and, e_or, e_xor, e_shl, e_shr, e_eql, e_neq, e_lss, e_leq, e_gtr, e_geq, e_beq, e_bne, e_peq1, e_peq2, e_pne1, e_pne2, e_zeq1, e_zeq2, e_zne1, e_zne2, e_feq1, e_fne1, e_feq2, e_fne2, e_seq, e_sne, e_ta1, e_ta2, Nat.zero_add, Nat.add_zero, Bool.not_true, Bool.not_false]
    unfold s57_p4 s57_p4_d
    have k3 : Kp (fun _ => False) w2 (drw w2) := kp_drw
    generalize drw w2 = w3 at k3 ⊢
    have k03 := hk2.trans k3
    refine (h0.kp' k03).ixg i rfl (by omega) fun b' q' hld => hld _ ?_
    refine (h1.kp' k03).ixg i rfl (by omega) fun b'' q'' hld' => hld' _ ?_
    try simp only [e_fd, e_nck, e_pkt, e_pkf, e_gdtt, e_gdtf, e_gdft, e_gdff, e_ift, e_iff, e_not, e_ln, e_lnT, e_cp, e_cvi, e_ex20, e_ex21, e_ex30, e_ex31, e_ex32, e_add, e_sub, e_mul, e_quo, e_rem, e_and, e_or, e_xor, e_shl, e_shr, e_eql, e_neq, e_lss, e_leq, e_gtr, e_geq, e_beq, e_bne, e_peq1, e_peq2, e_pne1, e_pne2, e_zeq1, e_zeq2, e_zne1, e_zne2, e_feq1, e_fne1, e_feq2, e_fne2, e_seq, e_sne, e_ta1, e_ta2, Nat.zero_add, Nat.add_zero, Bool.not_true, Bool.not_false]
    have m3 := m2.kp' k3
    refine m3.ix (i := i) (by omega) rfl fun pp _ hst => ?_
    refine hst m3 rfl (bx_by _ _) fun w4 m4 hk4 hz4 => ?_
    rw [show IntKind.u8.wrap (BitVec.ofInt IntKind.u8.bits (g xs i) ^^^ BitVec.ofInt IntKind.u8.bits (g ys i)).toNat = bx (g xs i) (g ys i) from rfl, xorP_step (by omega)] at m4
    unfold s57_p3 s57_p2
    try simp only [e_fd, e_nck, e_pkt, e_pkf, e_gdtt, e_gdtf, e_gdft, e_gdff, e_ift, e_iff, e_not, e_ln, e_lnT, e_cp, e_cvi, e_ex20, e_ex21, e_ex30, e_ex31, e_ex32, e_add, e_sub, e_mul, e_quo, e_rem, e_and, e_or, e_xor, e_shl, e_shr, e_eql, e_neq, e_lss, e_leq, e_gtr, e_geq, e_beq, e_bne, e_peq1, e_peq2, e_pne1, e_pne2, e_zeq1, e_zeq2, e_zne1, e_zne2, e_feq1, e_fne1, e_feq2, e_fne2, e_seq, e_sne, e_ta1, e_ta2, Nat.zero_add, Nat.add_zero, Bool.not_true, Bool.not_false]
    rw [wrap64_id (by omega) (by omega)]
    exact ⟨n - 1, by omega, i + 1, by omega, by simp, m4, k03.then hk4 (fun k hk (q : some _ = some k) => by cases q; omega)⟩
  · have hin : i = min xs.length ys.length := by omega
    have fin : s57_p1 K v1 (I (i : Nat)) w2 := by
      unfold s57_p1
      rw [hin] at m2 ⊢
      exact hK w2 b1 v1 (back m2 (xorP_len _ _ _)) hb1 hk2
    by_cases hi1 : i < xs.length
    · have hi' : ((i : Nat) : Int) < ((xs.length : Nat) : Int) := by omega
      simp only [hi', decide_true, e_fd, e_nck, e_pkt, e_pkf, e_gdtt, e_gdtf, e_gdft, e_gdff, e_ift, e_iff, e_not, e_ln, e_lnT, e_cp, e_cvi, e_ex20, e_ex21, e_ex30, e_ex31, e_ex32, e_add, e_sub, e_mul, e_quo, e_rem, e_and, e_or, e_xor, e_shl, e_shr, e_eql, e_neq, e_lss, e_leq, e_gtr, e_geq, e_beq, e_bne, e_peq1, e_peq2, e_pne1, e_pne2, e_zeq1, e_zeq2, e_zne1, e_zne2, e_feq1, e_fne1, e_feq2, e_fne2, e_seq, e_sne, e_ta1, e_ta2, Nat.zero_add, Nat.add_zero, Bool.not_true, Bool.not_false]
      refine (h1.kp' hk2).ln ?_
      have hi2 : ¬ ((i : Nat) : Int) < ((ys.length : Nat) : Int) := by omega
      simp only [hi2, decide_false, e_fd, e_nck, e_pkt, e_pkf, e_gdtt, e_gdtf, e_gdft, e_gdff, e_ift, e_iff, e_not, e_ln, e_lnT, e_cp, e_cvi, e_ex20, e_ex21, e_ex30, e_ex31, e_ex32, e_add, e_sub, e_mul, e_quo, e_rem, e_and, e_or, e_xor, e_shl, e_shr, e_eql, e_neq, e_lss, e_leq, e_gtr, e_geq, e_beq, e_bne, e_peq1, e_peq2, e_pne1, e_pne2, e_zeq1, e_zeq2, e_zne1, e_zne2, e_feq1, e_fne1, e_feq2, e_fne2, e_seq, e_sne, e_ta1, e_ta2, Nat.zero_add, Nat.add_zero, Bool.not_true, Bool.not_false]
      exact fin
    · have hi' : ¬ ((i : Nat) : Int) < ((xs.length : Nat) : Int) := by omega
      simp only [hi', decide_false, e_fd, e_nck, e_pkt, e_pkf, e_gdtt, e_gdtf, e_gdft, e_gdff, e_ift, e_iff, e_not, e_ln, e_lnT, e_cp, e_cvi, e_ex20, e_ex21, e_ex30, e_ex31, e_ex32, e_add, e_sub, e_mul, e_quo, e_rem, e_and, e_or, e_xor, e_shl, e_shr, e_eql, e_neq, e_lss, e_leq, e_gtr, e_geq, e_beq, e_bne, e_peq1, e_peq2, e_pne1, e_pne2, e_zeq1, e_zeq2, e_zne1, e_zne2, e_feq1, e_fne1, e_feq2, e_fne2, e_seq, e_sne, e_ta1, e_ta2, Nat.zero_add, Nat.add_zero, Bool.not_true, Bool.not_false]
      exact fin
end
end Go.Proofs.Qxb6500898a
