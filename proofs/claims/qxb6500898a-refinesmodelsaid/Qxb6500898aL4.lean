import Derived.Test.Qxb6500898aV21
namespace Go.Proofs.Qxb6500898a
open Go.Sh Go.RowKit
set_option linter.unusedVariables false
set_option linter.unusedSimpArgs false

/-- turned right by i bits -/
def turnR (xs : List Int) (i : Nat) : List Int := if i = 0 then xs else rotR xs i
section
variable {W w w' w0 w2 : World} {v d t wv rv dv t0 t1 : Value} {ob wob wob0 : Option Nat} {mb b e m n i k c : Nat} {xs ys zs pr da : List Int} {K : Value → World → Prop} {B1 : List Value → World → Prop} {S S' : Nat → Prop} {L : List Value} {q : Int} {s s' s0 : Mst} {o : Op} {pre post : List Value}
theorem turnR_len : (turnR xs i).length = xs.length := by unfold turnR; split; rfl; exact rotR_len
theorem turnR_by (h : By xs) : By (turnR xs i) := by unfold turnR; split; exact h; exact h.rotR _
theorem turnR_e (hb : By xs) (hn : 0 < xs.length) : turnR xs i = rotR xs i := by
  unfold turnR
  by_cases h : i = 0
  · rw [if_pos h, h, rotR_0 hb hn]
  · rw [if_neg h]
/-- the count of a turn -/
theorem turn_c (hb : By xs) (q : Int) : ∃ c : Nat, (if 8 * xs.length = 0 then (0 : Int) else q % ((8 * xs.length : Nat) : Int)) = (c : Int) ∧ (c = 0 ∨ c < 8 * xs.length) ∧ rotL xs q = turnL xs c ∧ rotRt xs q = turnR xs c := by
  by_cases hz : 0 < xs.length
  · rw [if_neg (by omega)]
    have ec : ((8 * xs.length : Nat) : Int) = 8 * (xs.length : Int) := by omega
    have b3 := Int.emod_nonneg q (b := (8 * (xs.length : Int))) (by omega)
    have b4 := Int.emod_lt_of_pos q (b := (8 * (xs.length : Int))) (by omega)
    rw [ec]
    refine ⟨(q % (8 * (xs.length : Int))).toNat, by omega, by omega, rotL_e hb hz, ?_⟩
    rw [rotRt_e hz, turnR_e hb hz]
  · rw [if_pos (by omega)]
    exact ⟨0, rfl, .inl rfl, by rw [rotL_nil hz]; rfl, by rw [rotRt_nil hz]; rfl⟩
theorem rl_small (hb : By xs) {m : Nat} (hm : m < 8 * xs.length) : rotL xs (m : Int) = turnL xs m ∧ rotRt xs (m : Int) = turnR xs m := by
  have hz : 0 < xs.length := by omega
  have e : ((m : Int) % (8 * (xs.length : Int))).toNat = m := by rw [Int.emod_eq_of_lt (by omega) (by omega)]; omega
  rw [rotL_e hb hz, rotRt_e hz, e, turnR_e hb hz]
  exact ⟨rfl, rfl⟩
theorem rl_full (hb : By xs) : rotL xs ((8 * xs.length : Nat) : Int) = xs ∧ rotRt xs ((8 * xs.length : Nat) : Int) = xs := by
  by_cases hz : 0 < xs.length
  · have e : (((8 * xs.length : Nat) : Int) % (8 * (xs.length : Int))).toNat = 0 := by rw [show ((8 * xs.length : Nat) : Int) = 8 * (xs.length : Int) by omega, Int.emod_self]; rfl
    rw [rotL_e hb hz, rotRt_e hz, e, rotR_0 hb hz]
    exact ⟨rfl, rfl⟩
  · exact ⟨rotL_nil hz, rotRt_nil hz⟩
/-- the three ways back -/
theorem back_LL (hb : By xs) (hc : c = 0 ∨ c < 8 * xs.length) : rotL (turnL xs c) ((8 * xs.length - c : Nat) : Int) = xs := by
  by_cases h : c = 0
  · subst h; exact (rl_full hb).1
  · have hl : (turnL xs c).length = xs.length := turnL_len
    have := (rl_small (turnL_by hb) (xs := turnL xs c) (m := 8 * xs.length - c) (by omega)).1
    rw [this]
    unfold turnL
    rw [if_neg h, if_neg (by omega), rotR_len]
    exact rotR_back hb (by omega) (by omega) (by omega)
theorem back_RR (hb : By xs) (hc : c = 0 ∨ c < 8 * xs.length) : rotRt (turnR xs c) ((8 * xs.length - c : Nat) : Int) = xs := by
  by_cases h : c = 0
  · subst h; exact (rl_full hb).2
  · have hl : (turnR xs c).length = xs.length := turnR_len
    have := (rl_small (turnR_by hb) (xs := turnR xs c) (m := 8 * xs.length - c) (by omega)).2
    rw [this]
    unfold turnR
    rw [if_neg h, if_neg (by omega)]
    exact rotR_back hb (by omega) (by omega) (by omega)
theorem back_LR (hb : By xs) (hc : c = 0 ∨ c < 8 * xs.length) (hq : ∀ ys : List Int, By ys → ys.length = xs.length → rotRt ys q = turnR ys c) : rotRt (turnL xs c) q = xs := by
  rw [hq _ (turnL_by hb) turnL_len]
  by_cases h : c = 0
  · subst h; rfl
  · unfold turnL turnR
    rw [if_neg h, if_neg h]
    exact rotR_back hb (by omega) (by omega) (by omega)
theorem step_L (hb : By xs) (hi : i + 1 < 8 * xs.length) : rotL (turnL xs i) 1 = turnL xs (i + 1) := by
  have hl : (turnL xs i).length = xs.length := turnL_len
  have := (rl_small (turnL_by hb) (xs := turnL xs i) (m := 1) (by omega)).1
  rw [show ((1 : Nat) : Int) = 1 from rfl] at this
  rw [this, ← turnL_step hb hi]
  rw [show turnL (turnL xs i) 1 = rotR (turnL xs i) (8 * (turnL xs i).length - 1) from rfl, hl]
theorem step_R (hb : By xs) (hi : i + 1 < 8 * xs.length) : rotRt (turnR xs i) 1 = turnR xs (i + 1) := by
  have hl : (turnR xs i).length = xs.length := turnR_len
  have := (rl_small (turnR_by hb) (xs := turnR xs i) (m := 1) (by omega)).2
  rw [show ((1 : Nat) : Int) = 1 from rfl] at this
  rw [this, turnR_e (turnR_by hb) (by omega), turnR_e hb (by omega), turnR_e hb (by omega)]
  exact rotR_add hb (by omega) (by omega) (by omega) (.inl rfl)
theorem rotL_ok (h : Mv w v ob m xs pre post) (hK : ∀ w', Mv w' v ob m (rotL xs q) pre post → Kp (fun k => ob = some k) w w' → w'.heap.size = w.heap.size → K (.tuple #[]) w') : cl Try.prog 38 #[v, I q] K w := rotateLeft_ok h hK
theorem rotR_ok (h : Mv w v ob m xs pre post) (hK : ∀ w', Mv w' v ob m (rotRt xs q) pre post → Kp (fun k => ob = some k) w w' → w'.heap.size = w.heap.size → K (.tuple #[]) w') : cl Try.prog 39 #[v, I q] K w := rotateRight_ok h (fun _ => trivial) hK
/-- after the turns by one bit each -/
theorem rot_end {t7 t8 t10 t11 : Value} (h0 : Bs w t0 xs) (hxl : xs.length ≤ 100000000000) (hq : -9223372036854775808 ≤ q ∧ q ≤ 9223372036854775807) (h7 : Bs w t7 (rotL xs q)) (h8 : Bs w t8 (rotRt xs q)) (h10 : Bs w t10 (rotL xs q)) (h11 : Bs w t11 (rotRt xs q)) (hK : ∀ w', Kp (fun _ => False) w w' → K (.bool true) w') : s19_p1 K t0 (I q) t7 t8 t10 t11 w := by
  have hx : By xs := h0.by_
  have l7 : (rotL xs q).length = xs.length := rotL_len
  have l8 : (rotRt xs q).length = xs.length := rotRt_len
  unfold s19_p1
  refine same_self h10 h7 fun w1 k1 => ?_
  simp only [Bool.not_true, e_fd, e_nck, e_pkt, e_pkf, e_gdtt, e_gdtf, e_gdft, e_gdff, e_ift, e_iff, e_not, e_ln, e_lnT, e_cp, e_cvi, e_ex20, e_ex21, e_ex30, e_ex31, e_ex32, e_add, e_sub, e_mul, e_quo, e_rem, e_and, e_or, e_xor, e_shl, e_shr, e_eql, e_neq, e_lss, e_leq, e_gtr, e_geq, e_beq, e_bne, e_peq1, e_peq2, e_pne1, e_pne2, e_zeq1, e_zeq2, e_zne1, e_zne2, e_feq1, e_fne1, e_feq2, e_fne2, e_seq, e_sne, e_ta1, e_ta2, Nat.zero_add, Nat.add_zero, Bool.not_true, Bool.not_false]
  refine same_self (h11.kp' k1) (h8.kp' k1) fun w2 hk2 => ?_
  have k2 := k1.trans hk2
  simp only [Bool.not_true, e_fd, e_nck, e_pkt, e_pkf, e_gdtt, e_gdtf, e_gdft, e_gdff, e_ift, e_iff, e_not, e_ln, e_lnT, e_cp, e_cvi, e_ex20, e_ex21, e_ex30, e_ex31, e_ex32, e_add, e_sub, e_mul, e_quo, e_rem, e_and, e_or, e_xor, e_shl, e_shr, e_eql, e_neq, e_lss, e_leq, e_gtr, e_geq, e_beq, e_bne, e_peq1, e_peq2, e_pne1, e_pne2, e_zeq1, e_zeq2, e_zne1, e_zne2, e_feq1, e_fne1, e_feq2, e_fne2, e_seq, e_sne, e_ta1, e_ta2, Nat.zero_add, Nat.add_zero, Bool.not_true, Bool.not_false]
  refine rotLm_ok (h0.kp' k2) hxl hq fun w3 b3 v3 s3 hb3 hk3 => ?_
  have k3 := k2.trans hk3
  refine same_self (sl_bs s3 h7.by_ (by omega)) (h7.kp' k3) fun w4 hk4 => ?_
  have k4 := k3.trans hk4
  simp only [Bool.not_true, e_fd, e_nck, e_pkt, e_pkf, e_gdtt, e_gdtf, e_gdft, e_gdff, e_ift, e_iff, e_not, e_ln, e_lnT, e_cp, e_cvi, e_ex20, e_ex21, e_ex30, e_ex31, e_ex32, e_add, e_sub, e_mul, e_quo, e_rem, e_and, e_or, e_xor, e_shl, e_shr, e_eql, e_neq, e_lss, e_leq, e_gtr, e_geq, e_beq, e_bne, e_peq1, e_peq2, e_pne1, e_pne2, e_zeq1, e_zeq2, e_zne1, e_zne2, e_feq1, e_fne1, e_feq2, e_fne2, e_seq, e_sne, e_ta1, e_ta2, Nat.zero_add, Nat.add_zero, Bool.not_true, Bool.not_false]
  refine rotRm_ok (h0.kp' k4) hxl hq fun w5 b5 v5 s5 hb5 hk5 => ?_
  have k5 := k4.trans hk5
  try simp only [e_fd, e_nck, e_pkt, e_pkf, e_gdtt, e_gdtf, e_gdft, e_gdff, e_ift, e_iff, e_not, e_ln, e_lnT, e_cp, e_cvi, e_ex20, e_ex21, e_ex30, e_ex31, e_ex32, e_add, e_sub, e_mul, e_quo, e_rem, e_and, e_or, e_xor, e_shl, e_shr, e_eql, e_neq, e_lss, e_leq, e_gtr, e_geq, e_beq, e_bne, e_peq1, e_peq2, e_pne1, e_pne2, e_zeq1, e_zeq2, e_zne1, e_zne2, e_feq1, e_fne1, e_feq2, e_fne2, e_seq, e_sne, e_ta1, e_ta2, Nat.zero_add, Nat.add_zero, Bool.not_true, Bool.not_false]
  refine same_self (sl_bs s5 h8.by_ (by omega)) (h8.kp' k5) fun w6 hk6 => ?_
  have k6 := k5.trans hk6
  simp only [Bool.not_true, e_fd, e_nck, e_pkt, e_pkf, e_gdtt, e_gdtf, e_gdft, e_gdff, e_ift, e_iff, e_not, e_ln, e_lnT, e_cp, e_cvi, e_ex20, e_ex21, e_ex30, e_ex31, e_ex32, e_add, e_sub, e_mul, e_quo, e_rem, e_and, e_or, e_xor, e_shl, e_shr, e_eql, e_neq, e_lss, e_leq, e_gtr, e_geq, e_beq, e_bne, e_peq1, e_peq2, e_pne1, e_pne2, e_zeq1, e_zeq2, e_zne1, e_zne2, e_feq1, e_fne1, e_feq2, e_fne2, e_seq, e_sne, e_ta1, e_ta2, Nat.zero_add, Nat.add_zero, Bool.not_true, Bool.not_false]
  refine bsq_r (l := [U8 165]) rfl fun w7 r7 hk7 hz7 => ?_
  have k7 := k6.trans hk7
  have s7 : Sl u1 1 w7 5 (some w6.heap.size) (sv w6.heap.size 0 1 1) [165] := ⟨1, [], rfl, Nat.le_refl _, rfl, r7⟩
  have nk : ∀ {w'}, Kp (fun k => some w6.heap.size = some k) w7 w' → Kp (fun _ => False) w w' := fun hk => k7.then hk (fun k hk (q : some _ = some k) => by cases q; have := k6.size; omega)
  refine appRot_ok s7 (h0.kp' k7) (fun w' hk => h0.kp' (nk hk)) (by simp) hxl fun w8 t8' ob8 s8 hk8 ho8 => ?_
  have k8 := nk hk8
  have b8 := sl_bs s8 (By.app (by_l rfl) h8.by_) (by rw [List.length_append]; simp; omega)
  have hl8 : ([165] ++ rotRt xs q).length = 1 + xs.length := by rw [List.length_append, l8]; rfl
  refine b8.ln ?_
  refine (h0.kp' k8).ln ?_
  try simp only [e_fd, e_nck, e_pkt, e_pkf, e_gdtt, e_gdtf, e_gdft, e_gdff, e_ift, e_iff, e_not, e_ln, e_lnT, e_cp, e_cvi, e_ex20, e_ex21, e_ex30, e_ex31, e_ex32, e_add, e_sub, e_mul, e_quo, e_rem, e_and, e_or, e_xor, e_shl, e_shr, e_eql, e_neq, e_lss, e_leq, e_gtr, e_geq, e_beq, e_bne, e_peq1, e_peq2, e_pne1, e_pne2, e_zeq1, e_zeq2, e_zne1, e_zne2, e_feq1, e_fne1, e_feq2, e_fne2, e_seq, e_sne, e_ta1, e_ta2, Nat.zero_add, Nat.add_zero, Bool.not_true, Bool.not_false]
  rw [wrap64_id (by omega) (by omega), hl8]
  have e1 : (((1 + xs.length : Nat) : Int) == 1 + ((xs.length : Nat) : Int)) = true := by rw [beq_iff_eq]; omega
  simp only [e1, e_fd, e_nck, e_pkt, e_pkf, e_gdtt, e_gdtf, e_gdft, e_gdff, e_ift, e_iff, e_not, e_ln, e_lnT, e_cp, e_cvi, e_ex20, e_ex21, e_ex30, e_ex31, e_ex32, e_add, e_sub, e_mul, e_quo, e_rem, e_and, e_or, e_xor, e_shl, e_shr, e_eql, e_neq, e_lss, e_leq, e_gtr, e_geq, e_beq, e_bne, e_peq1, e_peq2, e_pne1, e_pne2, e_zeq1, e_zeq2, e_zne1, e_zne2, e_feq1, e_fne1, e_feq2, e_fne2, e_seq, e_sne, e_ta1, e_ta2, Nat.zero_add, Nat.add_zero, Bool.not_true, Bool.not_false]
  refine b8.ixg 0 rfl (by omega) fun b' q' hld => ?_
  try simp only [e_fd, e_nck, e_pkt, e_pkf, e_gdtt, e_gdtf, e_gdft, e_gdff, e_ift, e_iff, e_not, e_ln, e_lnT, e_cp, e_cvi, e_ex20, e_ex21, e_ex30, e_ex31, e_ex32, e_add, e_sub, e_mul, e_quo, e_rem, e_and, e_or, e_xor, e_shl, e_shr, e_eql, e_neq, e_lss, e_leq, e_gtr, e_geq, e_beq, e_bne, e_peq1, e_peq2, e_pne1, e_pne2, e_zeq1, e_zeq2, e_zne1, e_zne2, e_feq1, e_fne1, e_feq2, e_fne2, e_seq, e_sne, e_ta1, e_ta2, Nat.zero_add, Nat.add_zero, Bool.not_true, Bool.not_false]
  refine hld _ ?_
  have e2 : (g ([165] ++ rotRt xs q) 0 == 165) = true := rfl
  simp only [e2, e_fd, e_nck, e_pkt, e_pkf, e_gdtt, e_gdtf, e_gdft, e_gdff, e_ift, e_iff, e_not, e_ln, e_lnT, e_cp, e_cvi, e_ex20, e_ex21, e_ex30, e_ex31, e_ex32, e_add, e_sub, e_mul, e_quo, e_rem, e_and, e_or, e_xor, e_shl, e_shr, e_eql, e_neq, e_lss, e_leq, e_gtr, e_geq, e_beq, e_bne, e_peq1, e_peq2, e_pne1, e_pne2, e_zeq1, e_zeq2, e_zne1, e_zne2, e_feq1, e_fne1, e_feq2, e_fne2, e_seq, e_sne, e_ta1, e_ta2, Nat.zero_add, Nat.add_zero, Bool.not_true, Bool.not_false]
  refine b8.dropZ (n := 1) rfl (by omega) fun v1 hv1 => ?_
  try simp only [e_fd, e_nck, e_pkt, e_pkf, e_gdtt, e_gdtf, e_gdft, e_gdff, e_ift, e_iff, e_not, e_ln, e_lnT, e_cp, e_cvi, e_ex20, e_ex21, e_ex30, e_ex31, e_ex32, e_add, e_sub, e_mul, e_quo, e_rem, e_and, e_or, e_xor, e_shl, e_shr, e_eql, e_neq, e_lss, e_leq, e_gtr, e_geq, e_beq, e_bne, e_peq1, e_peq2, e_pne1, e_pne2, e_zeq1, e_zeq2, e_zne1, e_zne2, e_feq1, e_fne1, e_feq2, e_fne2, e_seq, e_sne, e_ta1, e_ta2, Nat.zero_add, Nat.add_zero, Bool.not_true, Bool.not_false]
  have bv : Bs w8 v1 (rotRt xs q) := hv1 w8 b8
  refine same_self bv (h8.kp' k8) fun w9 hk9 => ?_
  try simp only [e_fd, e_nck, e_pkt, e_pkf, e_gdtt, e_gdtf, e_gdft, e_gdff, e_ift, e_iff, e_not, e_ln, e_lnT, e_cp, e_cvi, e_ex20, e_ex21, e_ex30, e_ex31, e_ex32, e_add, e_sub, e_mul, e_quo, e_rem, e_and, e_or, e_xor, e_shl, e_shr, e_eql, e_neq, e_lss, e_leq, e_gtr, e_geq, e_beq, e_bne, e_peq1, e_peq2, e_pne1, e_pne2, e_zeq1, e_zeq2, e_zne1, e_zne2, e_feq1, e_fne1, e_feq2, e_fne2, e_seq, e_sne, e_ta1, e_ta2, Nat.zero_add, Nat.add_zero, Bool.not_true, Bool.not_false]
  exact hK w9 (k8.trans hk9)
theorem rot_loop {t7 t8 t10 t11 : Value} {b10 b11 : Nat} (h0 : Bs w t0 xs) (hxl : xs.length ≤ 100000000000) (hq : -9223372036854775808 ≤ q ∧ q ≤ 9223372036854775807) (hc : c = 0 ∨ c < 8 * xs.length) (eL : rotL xs q = turnL xs c) (eR : rotRt xs q = turnR xs c) (h7 : Bs w t7 (rotL xs q)) (h8 : Bs w t8 (rotRt xs q))
    (hk2 : Kp (fun _ => False) w w2) (m10 : Mv w2 t10 (some b10) 0 xs [] []) (m11 : Mv w2 t11 (some b11) 0 xs [] []) (hb10 : w.heap.size ≤ b10) (hb11 : w.heap.size ≤ b11) (hne : b10 ≠ b11) (hK : ∀ w', Kp (fun _ => False) w w' → K (.bool true) w') : s19_p3 K t0 (I q) (I (c : Nat)) t7 t8 t10 t11 (I (0 : Nat)) w2 := by
  have hx : By xs := h0.by_
  unfold s19_p3
  refine ⟨fun n l w' => ∃ i : Nat, n + i = c ∧ l = [t0, I q, I (c : Nat), t7, t8, t10, t11, I (i : Nat)] ∧ Mv w' t10 (some b10) 0 (turnL xs i) [] [] ∧ Mv w' t11 (some b11) 0 (turnR xs i) [] [] ∧ Kp (fun _ => False) w w', c, ⟨0, rfl, rfl, m10, m11, hk2⟩, ?_⟩
  rintro n l w3 ⟨i, hn, rfl, n10, n11, hk3⟩
  rw [s19_p3_Fe]
  unfold s19_p2
  try simp only [e_fd, e_nck, e_pkt, e_pkf, e_gdtt, e_gdtf, e_gdft, e_gdff, e_ift, e_iff, e_not, e_ln, e_lnT, e_cp, e_cvi, e_ex20, e_ex21, e_ex30, e_ex31, e_ex32, e_add, e_sub, e_mul, e_quo, e_rem, e_and, e_or, e_xor, e_shl, e_shr, e_eql, e_neq, e_lss, e_leq, e_gtr, e_geq, e_beq, e_bne, e_peq1, e_peq2, e_pne1, e_pne2, e_zeq1, e_zeq2, e_zne1, e_zne2, e_feq1, e_fne1, e_feq2, e_fne2, e_seq, e_sne, e_ta1, e_ta2, Nat.zero_add, Nat.add_zero, Bool.not_true, Bool.not_false]
  by_cases hi : i < c
  · have hi' : ((i : Nat) : Int) < ((c : Nat) : Int) := by omega
    simp only [hi', decide_true, e_fd, e_nck, e_pkt, e_pkf, e_gdtt, e_gdtf, e_gdft, e_gdff, e_ift, e_iff, e_not, e_ln, e_lnT, e_cp, e_cvi, e_ex20, e_ex21, e_ex30, e_ex31, e_ex32, e_add, e_sub, e_mul, e_quo, e_rem, e_and, e_or, e_xor, e_shl, e_shr, e_eql, e_neq, e_lss, e_leq, e_gtr, e_geq, e_beq, e_bne, e_peq1, e_peq2, e_pne1, e_pne2, e_zeq1, e_zeq2, e_zne1, e_zne2, e_feq1, e_fne1, e_feq2, e_fne2, e_seq, e_sne, e_ta1, e_ta2, Nat.zero_add, Nat.add_zero, Bool.not_true, Bool.not_false]
    refine rotL_ok n10 fun w4 m4 hk4 hz4 => ?_
    rw [step_L hx (by omega)] at m4
    have n11' := n11.kp hk4 (fun k hk (q : some b10 = some k) => by cases hk; cases q; exact hne rfl)
    refine rotR_ok n11' fun w5 m5 hk5 hz5 => ?_
    rw [step_R hx (by omega)] at m5
    have m4' := m4.kp hk5 (fun k hk (q : some b11 = some k) => by cases hk; cases q; exact hne rfl)
    try simp only [e_fd, e_nck, e_pkt, e_pkf, e_gdtt, e_gdtf, e_gdft, e_gdff, e_ift, e_iff, e_not, e_ln, e_lnT, e_cp, e_cvi, e_ex20, e_ex21, e_ex30, e_ex31, e_ex32, e_add, e_sub, e_mul, e_quo, e_rem, e_and, e_or, e_xor, e_shl, e_shr, e_eql, e_neq, e_lss, e_leq, e_gtr, e_geq, e_beq, e_bne, e_peq1, e_peq2, e_pne1, e_pne2, e_zeq1, e_zeq2, e_zne1, e_zne2, e_feq1, e_fne1, e_feq2, e_fne2, e_seq, e_sne, e_ta1, e_ta2, Nat.zero_add, Nat.add_zero, Bool.not_true, Bool.not_false]
    rw [wrap64_id (by omega) (by omega)]
    refine ⟨n - 1, by omega, i + 1, by omega, by simp, m4', m5, ?_⟩
    exact (hk3.then hk4 (fun k hk (q : some _ = some k) => by cases q; omega)).then hk5 (fun k hk (q : some _ = some k) => by cases q; omega)
  · have hi' : ¬ ((i : Nat) : Int) < ((c : Nat) : Int) := by omega
    simp only [hi', decide_false, e_fd, e_nck, e_pkt, e_pkf, e_gdtt, e_gdtf, e_gdft, e_gdff, e_ift, e_iff, e_not, e_ln, e_lnT, e_cp, e_cvi, e_ex20, e_ex21, e_ex30, e_ex31, e_ex32, e_add, e_sub, e_mul, e_quo, e_rem, e_and, e_or, e_xor, e_shl, e_shr, e_eql, e_neq, e_lss, e_leq, e_gtr, e_geq, e_beq, e_bne, e_peq1, e_peq2, e_pne1, e_pne2, e_zeq1, e_zeq2, e_zne1, e_zne2, e_feq1, e_fne1, e_feq2, e_fne2, e_seq, e_sne, e_ta1, e_ta2, Nat.zero_add, Nat.add_zero, Bool.not_true, Bool.not_false]
    have : i = c := by omega
    subst this
    rw [← eL] at n10
    rw [← eR] at n11
    exact rot_end (h0.kp' hk3) hxl hq (h7.kp' hk3) (h8.kp' hk3) n10.bs n11.bs fun w4 hk4 => hK w4 (hk3.trans hk4)
theorem rotationHolds_ok (h0 : Bs w t0 xs) (hxl : xs.length ≤ 100000000000) (hq : -9223372036854775808 ≤ q ∧ q ≤ 9223372036854775807) (hK : ∀ w', Kp (fun _ => False) w w' → K (.bool true) w') : cl Try.prog 19 #[t0, I q] K w := by
  have hx : By xs := h0.by_
  have l7 : (rotL xs q).length = xs.length := rotL_len
  have l8 : (rotRt xs q).length = xs.length := rotRt_len
  have nb : ∀ {w1 w2 w3 : World} {b : Nat}, w1.heap.size ≤ b → Kp (fun _ => False) w1 w2 → Kp (fun k => some b = some k) w2 w3 → Kp (fun _ => False) w1 w3 := fun hb hk1 hk2 => hk1.then hk2 (fun k hk (q : some _ = some k) => by cases q; omega)
  apply c19
  unfold s19_p4
  refine h0.ln ?_
  try simp only [e_fd, e_nck, e_pkt, e_pkf, e_gdtt, e_gdtf, e_gdft, e_gdff, e_ift, e_iff, e_not, e_ln, e_lnT, e_cp, e_cvi, e_ex20, e_ex21, e_ex30, e_ex31, e_ex32, e_add, e_sub, e_mul, e_quo, e_rem, e_and, e_or, e_xor, e_shl, e_shr, e_eql, e_neq, e_lss, e_leq, e_gtr, e_geq, e_beq, e_bne, e_peq1, e_peq2, e_pne1, e_pne2, e_zeq1, e_zeq2, e_zne1, e_zne2, e_feq1, e_fne1, e_feq2, e_fne2, e_seq, e_sne, e_ta1, e_ta2, Nat.zero_add, Nat.add_zero, Bool.not_true, Bool.not_false]
  rw [wrap64_id (by omega) (by omega), show (8 : Int) * ((xs.length : Nat) : Int) = ((8 * xs.length : Nat) : Int) by omega]
  refine count_ok hq (by omega) ?_
  obtain ⟨c, ec, hc, eL, eR⟩ := turn_c hx q
  rw [ec]
  refine clone_ok h0 (by omega) fun w1 b1 r1 hb1 hk1 => ?_
  refine clone_ok (h0.kp' hk1) (by omega) fun w2 b2 r2 hb2 hk2 => ?_
  have k2 := hk1.trans hk2
  have ne12 : b1 ≠ b2 := by have := r1.lt; omega
  have m1 := mv_row (hk2.row' r1) hx (by omega)
  have m2 := mv_row r2 hx (by omega)
  refine rotL_ok m1 fun w3 m3 hk3 hz3 => ?_
  have k3 := nb hb1 k2 hk3
  have m2' := m2.kp hk3 (fun k hk (q : some b1 = some k) => by cases hk; cases q; exact ne12 rfl)
  refine rotR_ok m2' fun w4 m4 hk4 hz4 => ?_
  have k4 := nb (by have := hk1.size; omega) k3 hk4
  have m3' := m3.kp hk4 (fun k hk (q : some b2 = some k) => by cases hk; cases q; exact ne12 rfl)
  have h7 := m3'.bs
  have h8 := m4.bs
  have h04 := h0.kp' k4
  clear m1 m2 m2' r1 r2
  rw [show sv b1 0 xs.length xs.length = sv b1 0 (rotL xs q).length (rotL xs q).length by rw [l7]] at h7 ⊢
  rw [show sv b2 0 xs.length xs.length = sv b2 0 (rotRt xs q).length (rotRt xs q).length by rw [l8]] at h8 ⊢
  generalize sv b1 0 (rotL xs q).length (rotL xs q).length = t7 at h7 ⊢
  generalize sv b2 0 (rotRt xs q).length (rotRt xs q).length = t8 at h8 ⊢
  -- back to the left
  refine clone_ok h7 (by omega) fun w5 b5 r5 hb5 hk5 => ?_
  try simp only [e_fd, e_nck, e_pkt, e_pkf, e_gdtt, e_gdtf, e_gdft, e_gdff, e_ift, e_iff, e_not, e_ln, e_lnT, e_cp, e_cvi, e_ex20, e_ex21, e_ex30, e_ex31, e_ex32, e_add, e_sub, e_mul, e_quo, e_rem, e_and, e_or, e_xor, e_shl, e_shr, e_eql, e_neq, e_lss, e_leq, e_gtr, e_geq, e_beq, e_bne, e_peq1, e_peq2, e_pne1, e_pne2, e_zeq1, e_zeq2, e_zne1, e_zne2, e_feq1, e_fne1, e_feq2, e_fne2, e_seq, e_sne, e_ta1, e_ta2, Nat.zero_add, Nat.add_zero, Bool.not_true, Bool.not_false]
  rw [wrap64_id (by omega) (by omega), show ((8 * xs.length : Nat) : Int) - ((c : Nat) : Int) = ((8 * xs.length - c : Nat) : Int) by omega]
  refine rotL_ok (mv_row r5 h7.by_ (by omega)) fun w6 m6 hk6 hz6 => ?_
  have k6 := nb hb5 hk5 hk6
  rw [show rotL (rotL xs q) ((8 * xs.length - c : Nat) : Int) = xs by rw [eL, back_LL hx hc]] at m6
  refine same_self m6.bs (h04.kp' k6) fun w7 hk7 => ?_
  have k7 := k6.trans hk7
  simp only [Bool.not_true, e_fd, e_nck, e_pkt, e_pkf, e_gdtt, e_gdtf, e_gdft, e_gdff, e_ift, e_iff, e_not, e_ln, e_lnT, e_cp, e_cvi, e_ex20, e_ex21, e_ex30, e_ex31, e_ex32, e_add, e_sub, e_mul, e_quo, e_rem, e_and, e_or, e_xor, e_shl, e_shr, e_eql, e_neq, e_lss, e_leq, e_gtr, e_geq, e_beq, e_bne, e_peq1, e_peq2, e_pne1, e_pne2, e_zeq1, e_zeq2, e_zne1, e_zne2, e_feq1, e_fne1, e_feq2, e_fne2, e_seq, e_sne, e_ta1, e_ta2, Nat.zero_add, Nat.add_zero, Bool.not_true, Bool.not_false]
  -- back to the right
  refine clone_ok (h8.kp' k7) (by omega) fun w8 b8 r8 hb8 hk8 => ?_
  refine rotR_ok (mv_row r8 h8.by_ (by omega)) fun w9 m9 hk9 hz9 => ?_
  have k9 := nb (by have := k7.size; omega) (k7.trans hk8) hk9
  rw [show rotRt (rotRt xs q) ((8 * xs.length - c : Nat) : Int) = xs by rw [eR, back_RR hx hc]] at m9
  refine same_self m9.bs (h04.kp' k9) fun w10 hk10 => ?_
  have k10 := k9.trans hk10
  simp only [Bool.not_true, e_fd, e_nck, e_pkt, e_pkf, e_gdtt, e_gdtf, e_gdft, e_gdff, e_ift, e_iff, e_not, e_ln, e_lnT, e_cp, e_cvi, e_ex20, e_ex21, e_ex30, e_ex31, e_ex32, e_add, e_sub, e_mul, e_quo, e_rem, e_and, e_or, e_xor, e_shl, e_shr, e_eql, e_neq, e_lss, e_leq, e_gtr, e_geq, e_beq, e_bne, e_peq1, e_peq2, e_pne1, e_pne2, e_zeq1, e_zeq2, e_zne1, e_zne2, e_feq1, e_fne1, e_feq2, e_fne2, e_seq, e_sne, e_ta1, e_ta2, Nat.zero_add, Nat.add_zero, Bool.not_true, Bool.not_false]
  -- left and right
  refine clone_ok (h7.kp' k10) (by omega) fun w11 b11 r11 hb11 hk11 => ?_
  refine rotR_ok (mv_row r11 h7.by_ (by omega)) fun w12 m12 hk12 hz12 => ?_
  have k12 := nb (by have := k10.size; omega) (k10.trans hk11) hk12
  have hqq : ∀ ys : List Int, By ys → ys.length = xs.length → rotRt ys q = turnR ys c := fun ys hy hl => by
    obtain ⟨c', ec', hc', _, eR'⟩ := turn_c hy q
    rw [hl, ec] at ec'
    have : c' = c := by omega
    rw [eR', this]
  rw [show rotRt (rotL xs q) q = xs by rw [eL, back_LR hx hc hqq]] at m12
  refine same_self m12.bs (h04.kp' k12) fun w13 hk13 => ?_
  have k13 := k12.trans hk13
  simp only [Bool.not_true, e_fd, e_nck, e_pkt, e_pkf, e_gdtt, e_gdtf, e_gdft, e_gdff, e_ift, e_iff, e_not, e_ln, e_lnT, e_cp, e_cvi, e_ex20, e_ex21, e_ex30, e_ex31, e_ex32, e_add, e_sub, e_mul, e_quo, e_rem, e_and, e_or, e_xor, e_shl, e_shr, e_eql, e_neq, e_lss, e_leq, e_gtr, e_geq, e_beq, e_bne, e_peq1, e_peq2, e_pne1, e_pne2, e_zeq1, e_zeq2, e_zne1, e_zne2, e_feq1, e_fne1, e_feq2, e_fne2, e_seq, e_sne, e_ta1, e_ta2, Nat.zero_add, Nat.add_zero, Bool.not_true, Bool.not_false]
  refine clone_ok (h04.kp' k13) (by omega) fun w14 b14 r14 hb14 hk14 => ?_
  refine clone_ok (h04.kp' (k13.trans hk14)) (by omega) fun w15 b15 r15 hb15 hk15 => ?_
  have sz13 := k13.size
  have sz14 := hk14.size
  have lt14 := r14.lt
  exact rot_loop h04 hxl hq hc eL eR h7 h8 ((k13.trans hk14).trans hk15) (mv_row (hk15.row' r14) hx (by omega)) (mv_row r15 hx (by omega)) (by omega) (by omega) (by omega) fun w' hk => hK w' (k4.trans hk)
theorem law4_loop {ops : List Op} (hs : Scr W v ops) (hl : ops.length ≤ 65536) (hall : ∀ x ∈ ops, x.data.length ≤ 65536) (h : LZ W w mb wob wv rv s 0) (hK : ∀ w', Kp (fun _ => False) W w' → K (.bool true) w') : s4_p3 K (Pt mb 0) v (I ops.length) (I (0 : Nat)) w := by
  unfold s4_p3
  refine ⟨fun n l w' => ∃ (j : Nat) (wob : Option Nat) (wv rv : Value) (s : Mst), n + j = ops.length ∧ l = [Pt mb 0, v, I ops.length, I (j : Nat)] ∧ LZ W w' mb wob wv rv s j, ops.length, ⟨0, wob, wv, rv, s, rfl, rfl, h⟩, ?_⟩
  rintro n l w1 ⟨j, wob, wv, rv, s, hn, rfl, h1⟩
  rw [s4_p3_Fe]
  unfold s4_p2
  try simp only [e_fd, e_nck, e_pkt, e_pkf, e_gdtt, e_gdtf, e_gdft, e_gdff, e_ift, e_iff, e_not, e_ln, e_lnT, e_cp, e_cvi, e_ex20, e_ex21, e_ex30, e_ex31, e_ex32, e_add, e_sub, e_mul, e_quo, e_rem, e_and, e_or, e_xor, e_shl, e_shr, e_eql, e_neq, e_lss, e_leq, e_gtr, e_geq, e_beq, e_bne, e_peq1, e_peq2, e_pne1, e_pne2, e_zeq1, e_zeq2, e_zne1, e_zne2, e_feq1, e_fne1, e_feq2, e_fne2, e_seq, e_sne, e_ta1, e_ta2, Nat.zero_add, Nat.add_zero, Bool.not_true, Bool.not_false]
  by_cases hj : j < ops.length
  · have hj' : ((j : Nat) : Int) < ((ops.length : Nat) : Int) := by omega
    simp only [hj', decide_true, e_fd, e_nck, e_pkt, e_pkf, e_gdtt, e_gdtf, e_gdft, e_gdff, e_ift, e_iff, e_not, e_ln, e_lnT, e_cp, e_cvi, e_ex20, e_ex21, e_ex30, e_ex31, e_ex32, e_add, e_sub, e_mul, e_quo, e_rem, e_and, e_or, e_xor, e_shl, e_shr, e_eql, e_neq, e_lss, e_leq, e_gtr, e_geq, e_beq, e_bne, e_peq1, e_peq2, e_pne1, e_pne2, e_zeq1, e_zeq2, e_zne1, e_zne2, e_feq1, e_fne1, e_feq2, e_fne2, e_seq, e_sne, e_ta1, e_ta2, Nat.zero_add, Nat.add_zero, Bool.not_true, Bool.not_false]
    refine h1.step hs hl hall hj fun w2 wob2 wv2 rv2 s2 t5 dv h2 r5 hd hwf hst hz => ?_
    have hlen := h2.len
    try simp only [e_fd, e_nck, e_pkt, e_pkf, e_gdtt, e_gdtf, e_gdft, e_gdff, e_ift, e_iff, e_not, e_ln, e_lnT, e_cp, e_cvi, e_ex20, e_ex21, e_ex30, e_ex31, e_ex32, e_add, e_sub, e_mul, e_quo, e_rem, e_and, e_or, e_xor, e_shl, e_shr, e_eql, e_neq, e_lss, e_leq, e_gtr, e_geq, e_beq, e_bne, e_peq1, e_peq2, e_pne1, e_pne2, e_zeq1, e_zeq2, e_zne1, e_zne2, e_feq1, e_fne1, e_feq2, e_fne2, e_seq, e_sne, e_ta1, e_ta2, Nat.zero_add, Nat.add_zero, Bool.not_true, Bool.not_false]
    refine ld1_r h2.ma.row rfl ?_
    try simp only [e_fd, e_nck, e_pkt, e_pkf, e_gdtt, e_gdtf, e_gdft, e_gdff, e_ift, e_iff, e_not, e_ln, e_lnT, e_cp, e_cvi, e_ex20, e_ex21, e_ex30, e_ex31, e_ex32, e_add, e_sub, e_mul, e_quo, e_rem, e_and, e_or, e_xor, e_shl, e_shr, e_eql, e_neq, e_lss, e_leq, e_gtr, e_geq, e_beq, e_bne, e_peq1, e_peq2, e_pne1, e_pne2, e_zeq1, e_zeq2, e_zne1, e_zne2, e_feq1, e_fne1, e_feq2, e_fne2, e_seq, e_sne, e_ta1, e_ta2, Nat.zero_add, Nat.add_zero, Bool.not_true, Bool.not_false]
    refine ld1_r r5 rfl ?_
    refine rotationHolds_ok h2.ma.wbs (by omega) hwf.off fun w3 hk3 => ?_
    simp only [Bool.not_true, e_fd, e_nck, e_pkt, e_pkf, e_gdtt, e_gdtf, e_gdft, e_gdff, e_ift, e_iff, e_not, e_ln, e_lnT, e_cp, e_cvi, e_ex20, e_ex21, e_ex30, e_ex31, e_ex32, e_add, e_sub, e_mul, e_quo, e_rem, e_and, e_or, e_xor, e_shl, e_shr, e_eql, e_neq, e_lss, e_leq, e_gtr, e_geq, e_beq, e_bne, e_peq1, e_peq2, e_pne1, e_pne2, e_zeq1, e_zeq2, e_zne1, e_zne2, e_feq1, e_fne1, e_feq2, e_fne2, e_seq, e_sne, e_ta1, e_ta2, Nat.zero_add, Nat.add_zero, Bool.not_true, Bool.not_false]
    rw [wrap64_id (by omega) (by omega)]
    exact ⟨n - 1, by omega, j + 1, wob2, wv2, rv2, s2, by omega, by simp, h2.kp' hk3⟩
  · have hj' : ¬ ((j : Nat) : Int) < ((ops.length : Nat) : Int) := by omega
    simp only [hj', decide_false, e_fd, e_nck, e_pkt, e_pkf, e_gdtt, e_gdtf, e_gdft, e_gdff, e_ift, e_iff, e_not, e_ln, e_lnT, e_cp, e_cvi, e_ex20, e_ex21, e_ex30, e_ex31, e_ex32, e_add, e_sub, e_mul, e_quo, e_rem, e_and, e_or, e_xor, e_shl, e_shr, e_eql, e_neq, e_lss, e_leq, e_gtr, e_geq, e_beq, e_bne, e_peq1, e_peq2, e_pne1, e_pne2, e_zeq1, e_zeq2, e_zne1, e_zne2, e_feq1, e_fne1, e_feq2, e_fne2, e_seq, e_sne, e_ta1, e_ta2, Nat.zero_add, Nat.add_zero, Bool.not_true, Bool.not_false]
    unfold s4_p1
    exact hK w1 h1.ma.kp
theorem law4_ok {ops : List Op} (hs : Scr W v ops) : cl Try.prog 4 #[v] (fun r w' => r = .bool true ∧ Below W.heap.size W w') W := by
  apply c4
  unfold s4_p4
  refine small_ok hs (Below.refl _ _) fun r hr => ?_
  cases r with
  | false =>
    simp only [Bool.not_false, e_fd, e_nck, e_pkt, e_pkf, e_gdtt, e_gdtf, e_gdft, e_gdff, e_ift, e_iff, e_not, e_ln, e_lnT, e_cp, e_cvi, e_ex20, e_ex21, e_ex30, e_ex31, e_ex32, e_add, e_sub, e_mul, e_quo, e_rem, e_and, e_or, e_xor, e_shl, e_shr, e_eql, e_neq, e_lss, e_leq, e_gtr, e_geq, e_beq, e_bne, e_peq1, e_peq2, e_pne1, e_pne2, e_zeq1, e_zeq2, e_zne1, e_zne2, e_feq1, e_fne1, e_feq2, e_fne2, e_seq, e_sne, e_ta1, e_ta2, Nat.zero_add, Nat.add_zero, Bool.not_true, Bool.not_false]
    exact ⟨trivial, Below.refl _ _⟩
  | true =>
    obtain ⟨hl, hall⟩ := hr rfl
    simp only [Bool.not_true, e_fd, e_nck, e_pkt, e_pkf, e_gdtt, e_gdtf, e_gdft, e_gdff, e_ift, e_iff, e_not, e_ln, e_lnT, e_cp, e_cvi, e_ex20, e_ex21, e_ex30, e_ex31, e_ex32, e_add, e_sub, e_mul, e_quo, e_rem, e_and, e_or, e_xor, e_shl, e_shr, e_eql, e_neq, e_lss, e_leq, e_gtr, e_geq, e_beq, e_bne, e_peq1, e_peq2, e_pne1, e_pne2, e_zeq1, e_zeq2, e_zne1, e_zne2, e_feq1, e_fne1, e_feq2, e_fne2, e_seq, e_sne, e_ta1, e_ta2, Nat.zero_add, Nat.add_zero, Bool.not_true, Bool.not_false]
    refine nw_r fun w1 r1 hk1 hz1 => ?_
    refine hs.ln ?_
    exact law4_loop hs hl hall (LZ.start hk1 r1 (Nat.le_refl _)) fun w' hk => ⟨rfl, hk.below'⟩
theorem law4_walk {ops : List Op} (hs : Scr W v ops) : Calls Try.prog 4 #[v] W fun e w' => e = .returned (.bool true) ∧ Below W.heap.size W w' :=
  Calls.mono (law4_ok hs) fun e w' ⟨r, he, hr, hb⟩ => ⟨by rw [he, hr], hb⟩
end
end Go.Proofs.Qxb6500898a
