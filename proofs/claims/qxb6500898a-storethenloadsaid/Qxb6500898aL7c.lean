import Derived.Test.Qxb6500898aL7b
namespace Go.Proofs.Qxb6500898a
open Go.Sh Go.RowKit
set_option linter.unusedVariables false
set_option linter.unusedSimpArgs false

section
variable {W w w' w0 w2 : World} {v d t wv rv dv t0 t1 : Value} {ob wob wob0 : Option Nat} {mb b b2 e m n : Nat} {xs ys zs pr da : List Int} {K : Value → World → Prop} {B1 : List Value → World → Prop} {s s' s0 : Mst} {o : Op} {S S' : Nat → Prop} {L M : List Value} {off width z : Int} {little : Bool}
theorem fillW_get {f : List Int → Value} {k i j : Nat} (hj : j < i) : (fillW f k ys L i)[j]? = some (f (ys.drop (k * j))) := by
  unfold fillW
  rw [List.getElem?_append_left (by simp; exact hj), List.getElem?_map, List.getElem?_range hj]
  rfl
theorem fillW_len {f : List Int → Value} {k : Nat} : (fillW f k ys L L.length).length = L.length := by unfold fillW; simp
theorem w8  (h0 : Bs w t0 xs) (hxl : xs.length ≤ 100000000000) (hL : L.length = xs.length / 8) (hr : Row w b e (fillW (fun l => .int .u64 (be8 l)) 8 xs L L.length)) (hK : ∀ w', Kp (fun _ => False) w w' → K (.bool true) w') : s26_p3 K t0 (sv b 0 L.length L.length) (I (L.length : Nat)) (I (0 : Nat)) w := by
  unfold s26_p3
  refine ⟨fun n l w' => ∃ i : Nat, n + i = L.length ∧ l = [t0, sv b 0 L.length L.length, I (L.length : Nat), I (i : Nat)] ∧ Kp (fun _ => False) w w', L.length, ⟨0, rfl, rfl, Kp.refl _ _⟩, ?_⟩
  rintro n l w1 ⟨i, hn, rfl, hk1⟩
  rw [s26_p3_Fe]
  unfold s26_p2
  try simp only [e_fd, e_nck, e_pkt, e_pkf, e_gdtt, e_gdtf, e_gdft, e_gdff, e_ift, e_iff, e_not, e_ln, e_lnT, e_cp, e_cvi, e_ex20, e_ex21, e_ex30, e_ex31, e_ex32, e_add, e_sub, e_mul, e_quo, e_rem, e_and, e_or, e_xor, e_shl, e_shr, e_eql, e_neq, e_lss, e_leq, e_gtr, e_geq, e_beq, e_bne, e_peq1, e_peq2, e_pne1, e_pne2, e_zeq1, e_zeq2, e_zne1, e_zne2, e_feq1, e_fne1, e_feq2, e_fne2, e_seq, e_sne, e_ta1, e_ta2, Nat.zero_add, Nat.add_zero, Bool.not_true, Bool.not_false]
  by_cases hi : i < L.length
  · have hi' : ((i : Nat) : Int) < ((L.length : Nat) : Int) := by omega
    simp only [hi', decide_true, e_fd, e_nck, e_pkt, e_pkf, e_gdtt, e_gdtf, e_gdft, e_gdff, e_ift, e_iff, e_not, e_ln, e_lnT, e_cp, e_cvi, e_ex20, e_ex21, e_ex30, e_ex31, e_ex32, e_add, e_sub, e_mul, e_quo, e_rem, e_and, e_or, e_xor, e_shl, e_shr, e_eql, e_neq, e_lss, e_leq, e_gtr, e_geq, e_beq, e_bne, e_peq1, e_peq2, e_pne1, e_pne2, e_zeq1, e_zeq2, e_zne1, e_zne2, e_feq1, e_fne1, e_feq2, e_fne2, e_seq, e_sne, e_ta1, e_ta2, Nat.zero_add, Nat.add_zero, Bool.not_true, Bool.not_false]
    refine ix_sv hi rfl ?_
    refine ld1_r (hk1.row' hr) (by rw [Nat.zero_add]; exact fillW_get hi) ?_
    try simp only [e_fd, e_nck, e_pkt, e_pkf, e_gdtt, e_gdtf, e_gdft, e_gdff, e_ift, e_iff, e_not, e_ln, e_lnT, e_cp, e_cvi, e_ex20, e_ex21, e_ex30, e_ex31, e_ex32, e_add, e_sub, e_mul, e_quo, e_rem, e_and, e_or, e_xor, e_shl, e_shr, e_eql, e_neq, e_lss, e_leq, e_gtr, e_geq, e_beq, e_bne, e_peq1, e_peq2, e_pne1, e_pne2, e_zeq1, e_zeq2, e_zne1, e_zne2, e_feq1, e_fne1, e_feq2, e_fne2, e_seq, e_sne, e_ta1, e_ta2, Nat.zero_add, Nat.add_zero, Bool.not_true, Bool.not_false]
    rw [wrap64_id (by omega) (by omega), show (8 : Int) * ((i : Nat) : Int) = ((8 * i : Nat) : Int) by omega]
    refine (h0.kp' hk1).dropZ (n := 8 * i) rfl (by omega) fun v1 hv1 => ?_
    refine BE64_ok (hv1 w1 (h0.kp' hk1)) (by rw [List.length_drop]; omega) fun w2 hk2 => ?_
    simp only [bne_self_eq_false, e_fd, e_nck, e_pkt, e_pkf, e_gdtt, e_gdtf, e_gdft, e_gdff, e_ift, e_iff, e_not, e_ln, e_lnT, e_cp, e_cvi, e_ex20, e_ex21, e_ex30, e_ex31, e_ex32, e_add, e_sub, e_mul, e_quo, e_rem, e_and, e_or, e_xor, e_shl, e_shr, e_eql, e_neq, e_lss, e_leq, e_gtr, e_geq, e_beq, e_bne, e_peq1, e_peq2, e_pne1, e_pne2, e_zeq1, e_zeq2, e_zne1, e_zne2, e_feq1, e_fne1, e_feq2, e_fne2, e_seq, e_sne, e_ta1, e_ta2, Nat.zero_add, Nat.add_zero, Bool.not_true, Bool.not_false]
    rw [wrap64_id (by omega) (by omega)]
    exact ⟨n - 1, by omega, i + 1, by omega, by simp, hk1.trans hk2⟩
  · have hi' : ¬ ((i : Nat) : Int) < ((L.length : Nat) : Int) := by omega
    simp only [hi', decide_false, e_fd, e_nck, e_pkt, e_pkf, e_gdtt, e_gdtf, e_gdft, e_gdff, e_ift, e_iff, e_not, e_ln, e_lnT, e_cp, e_cvi, e_ex20, e_ex21, e_ex30, e_ex31, e_ex32, e_add, e_sub, e_mul, e_quo, e_rem, e_and, e_or, e_xor, e_shl, e_shr, e_eql, e_neq, e_lss, e_leq, e_gtr, e_geq, e_beq, e_bne, e_peq1, e_peq2, e_pne1, e_pne2, e_zeq1, e_zeq2, e_zne1, e_zne2, e_feq1, e_fne1, e_feq2, e_fne2, e_seq, e_sne, e_ta1, e_ta2, Nat.zero_add, Nat.add_zero, Bool.not_true, Bool.not_false]
    unfold s26_p1
    exact hK w1 hk1
theorem w4l {t4 : Value} (h0 : Bs w t0 xs) (hxl : xs.length ≤ 100000000000) (hL : L.length = xs.length / 4) (hr : Row w b e (fillW (fun l => .int .u32 (le4 l)) 4 xs L L.length)) (hK : ∀ w', Kp (fun _ => False) w w' → s26_p4 K t0 t4 w') : s26_p6 K t0 t4 (sv b 0 L.length L.length) (I (L.length : Nat)) (I (0 : Nat)) w := by
  unfold s26_p6
  refine ⟨fun n l w' => ∃ i : Nat, n + i = L.length ∧ l = [t0, t4, sv b 0 L.length L.length, I (L.length : Nat), I (i : Nat)] ∧ Kp (fun _ => False) w w', L.length, ⟨0, rfl, rfl, Kp.refl _ _⟩, ?_⟩
  rintro n l w1 ⟨i, hn, rfl, hk1⟩
  rw [s26_p6_Fe]
  unfold s26_p5
  try simp only [e_fd, e_nck, e_pkt, e_pkf, e_gdtt, e_gdtf, e_gdft, e_gdff, e_ift, e_iff, e_not, e_ln, e_lnT, e_cp, e_cvi, e_ex20, e_ex21, e_ex30, e_ex31, e_ex32, e_add, e_sub, e_mul, e_quo, e_rem, e_and, e_or, e_xor, e_shl, e_shr, e_eql, e_neq, e_lss, e_leq, e_gtr, e_geq, e_beq, e_bne, e_peq1, e_peq2, e_pne1, e_pne2, e_zeq1, e_zeq2, e_zne1, e_zne2, e_feq1, e_fne1, e_feq2, e_fne2, e_seq, e_sne, e_ta1, e_ta2, Nat.zero_add, Nat.add_zero, Bool.not_true, Bool.not_false]
  by_cases hi : i < L.length
  · have hi' : ((i : Nat) : Int) < ((L.length : Nat) : Int) := by omega
    simp only [hi', decide_true, e_fd, e_nck, e_pkt, e_pkf, e_gdtt, e_gdtf, e_gdft, e_gdff, e_ift, e_iff, e_not, e_ln, e_lnT, e_cp, e_cvi, e_ex20, e_ex21, e_ex30, e_ex31, e_ex32, e_add, e_sub, e_mul, e_quo, e_rem, e_and, e_or, e_xor, e_shl, e_shr, e_eql, e_neq, e_lss, e_leq, e_gtr, e_geq, e_beq, e_bne, e_peq1, e_peq2, e_pne1, e_pne2, e_zeq1, e_zeq2, e_zne1, e_zne2, e_feq1, e_fne1, e_feq2, e_fne2, e_seq, e_sne, e_ta1, e_ta2, Nat.zero_add, Nat.add_zero, Bool.not_true, Bool.not_false]
    refine ix_sv hi rfl ?_
    refine ld1_r (hk1.row' hr) (by rw [Nat.zero_add]; exact fillW_get hi) ?_
    try simp only [e_fd, e_nck, e_pkt, e_pkf, e_gdtt, e_gdtf, e_gdft, e_gdff, e_ift, e_iff, e_not, e_ln, e_lnT, e_cp, e_cvi, e_ex20, e_ex21, e_ex30, e_ex31, e_ex32, e_add, e_sub, e_mul, e_quo, e_rem, e_and, e_or, e_xor, e_shl, e_shr, e_eql, e_neq, e_lss, e_leq, e_gtr, e_geq, e_beq, e_bne, e_peq1, e_peq2, e_pne1, e_pne2, e_zeq1, e_zeq2, e_zne1, e_zne2, e_feq1, e_fne1, e_feq2, e_fne2, e_seq, e_sne, e_ta1, e_ta2, Nat.zero_add, Nat.add_zero, Bool.not_true, Bool.not_false]
    rw [wrap64_id (by omega) (by omega), show (4 : Int) * ((i : Nat) : Int) = ((4 * i : Nat) : Int) by omega]
    refine (h0.kp' hk1).dropZ (n := 4 * i) rfl (by omega) fun v1 hv1 => ?_
    refine LE32_ok (hv1 w1 (h0.kp' hk1)) (by rw [List.length_drop]; omega) fun w2 hk2 => ?_
    simp only [bne_self_eq_false, e_fd, e_nck, e_pkt, e_pkf, e_gdtt, e_gdtf, e_gdft, e_gdff, e_ift, e_iff, e_not, e_ln, e_lnT, e_cp, e_cvi, e_ex20, e_ex21, e_ex30, e_ex31, e_ex32, e_add, e_sub, e_mul, e_quo, e_rem, e_and, e_or, e_xor, e_shl, e_shr, e_eql, e_neq, e_lss, e_leq, e_gtr, e_geq, e_beq, e_bne, e_peq1, e_peq2, e_pne1, e_pne2, e_zeq1, e_zeq2, e_zne1, e_zne2, e_feq1, e_fne1, e_feq2, e_fne2, e_seq, e_sne, e_ta1, e_ta2, Nat.zero_add, Nat.add_zero, Bool.not_true, Bool.not_false]
    rw [wrap64_id (by omega) (by omega)]
    exact ⟨n - 1, by omega, i + 1, by omega, by simp, hk1.trans hk2⟩
  · have hi' : ¬ ((i : Nat) : Int) < ((L.length : Nat) : Int) := by omega
    simp only [hi', decide_false, e_fd, e_nck, e_pkt, e_pkf, e_gdtt, e_gdtf, e_gdft, e_gdff, e_ift, e_iff, e_not, e_ln, e_lnT, e_cp, e_cvi, e_ex20, e_ex21, e_ex30, e_ex31, e_ex32, e_add, e_sub, e_mul, e_quo, e_rem, e_and, e_or, e_xor, e_shl, e_shr, e_eql, e_neq, e_lss, e_leq, e_gtr, e_geq, e_beq, e_bne, e_peq1, e_peq2, e_pne1, e_pne2, e_zeq1, e_zeq2, e_zne1, e_zne2, e_feq1, e_fne1, e_feq2, e_fne2, e_seq, e_sne, e_ta1, e_ta2, Nat.zero_add, Nat.add_zero, Bool.not_true, Bool.not_false]
    exact hK w1 hk1
theorem w4b {t3 t4 : Value} (h0 : Bs w t0 xs) (hxl : xs.length ≤ 100000000000) (hL : L.length = xs.length / 4) (hr : Row w b e (fillW (fun l => .int .u32 (be4 l)) 4 xs L L.length)) (hK : ∀ w', Kp (fun _ => False) w w' → s26_p7 K t0 t3 t4 w') : s26_p9 K t0 t3 t4 (sv b 0 L.length L.length) (I (L.length : Nat)) (I (0 : Nat)) w := by
  unfold s26_p9
  refine ⟨fun n l w' => ∃ i : Nat, n + i = L.length ∧ l = [t0, t3, t4, sv b 0 L.length L.length, I (L.length : Nat), I (i : Nat)] ∧ Kp (fun _ => False) w w', L.length, ⟨0, rfl, rfl, Kp.refl _ _⟩, ?_⟩
  rintro n l w1 ⟨i, hn, rfl, hk1⟩
  rw [s26_p9_Fe]
  unfold s26_p8
  try simp only [e_fd, e_nck, e_pkt, e_pkf, e_gdtt, e_gdtf, e_gdft, e_gdff, e_ift, e_iff, e_not, e_ln, e_lnT, e_cp, e_cvi, e_ex20, e_ex21, e_ex30, e_ex31, e_ex32, e_add, e_sub, e_mul, e_quo, e_rem, e_and, e_or, e_xor, e_shl, e_shr, e_eql, e_neq, e_lss, e_leq, e_gtr, e_geq, e_beq, e_bne, e_peq1, e_peq2, e_pne1, e_pne2, e_zeq1, e_zeq2, e_zne1, e_zne2, e_feq1, e_fne1, e_feq2, e_fne2, e_seq, e_sne, e_ta1, e_ta2, Nat.zero_add, Nat.add_zero, Bool.not_true, Bool.not_false]
  by_cases hi : i < L.length
  · have hi' : ((i : Nat) : Int) < ((L.length : Nat) : Int) := by omega
    simp only [hi', decide_true, e_fd, e_nck, e_pkt, e_pkf, e_gdtt, e_gdtf, e_gdft, e_gdff, e_ift, e_iff, e_not, e_ln, e_lnT, e_cp, e_cvi, e_ex20, e_ex21, e_ex30, e_ex31, e_ex32, e_add, e_sub, e_mul, e_quo, e_rem, e_and, e_or, e_xor, e_shl, e_shr, e_eql, e_neq, e_lss, e_leq, e_gtr, e_geq, e_beq, e_bne, e_peq1, e_peq2, e_pne1, e_pne2, e_zeq1, e_zeq2, e_zne1, e_zne2, e_feq1, e_fne1, e_feq2, e_fne2, e_seq, e_sne, e_ta1, e_ta2, Nat.zero_add, Nat.add_zero, Bool.not_true, Bool.not_false]
    refine ix_sv hi rfl ?_
    refine ld1_r (hk1.row' hr) (by rw [Nat.zero_add]; exact fillW_get hi) ?_
    try simp only [e_fd, e_nck, e_pkt, e_pkf, e_gdtt, e_gdtf, e_gdft, e_gdff, e_ift, e_iff, e_not, e_ln, e_lnT, e_cp, e_cvi, e_ex20, e_ex21, e_ex30, e_ex31, e_ex32, e_add, e_sub, e_mul, e_quo, e_rem, e_and, e_or, e_xor, e_shl, e_shr, e_eql, e_neq, e_lss, e_leq, e_gtr, e_geq, e_beq, e_bne, e_peq1, e_peq2, e_pne1, e_pne2, e_zeq1, e_zeq2, e_zne1, e_zne2, e_feq1, e_fne1, e_feq2, e_fne2, e_seq, e_sne, e_ta1, e_ta2, Nat.zero_add, Nat.add_zero, Bool.not_true, Bool.not_false]
    rw [wrap64_id (by omega) (by omega), show (4 : Int) * ((i : Nat) : Int) = ((4 * i : Nat) : Int) by omega]
    refine (h0.kp' hk1).dropZ (n := 4 * i) rfl (by omega) fun v1 hv1 => ?_
    refine BE32_ok (hv1 w1 (h0.kp' hk1)) (by rw [List.length_drop]; omega) fun w2 hk2 => ?_
    simp only [bne_self_eq_false, e_fd, e_nck, e_pkt, e_pkf, e_gdtt, e_gdtf, e_gdft, e_gdff, e_ift, e_iff, e_not, e_ln, e_lnT, e_cp, e_cvi, e_ex20, e_ex21, e_ex30, e_ex31, e_ex32, e_add, e_sub, e_mul, e_quo, e_rem, e_and, e_or, e_xor, e_shl, e_shr, e_eql, e_neq, e_lss, e_leq, e_gtr, e_geq, e_beq, e_bne, e_peq1, e_peq2, e_pne1, e_pne2, e_zeq1, e_zeq2, e_zne1, e_zne2, e_feq1, e_fne1, e_feq2, e_fne2, e_seq, e_sne, e_ta1, e_ta2, Nat.zero_add, Nat.add_zero, Bool.not_true, Bool.not_false]
    rw [wrap64_id (by omega) (by omega)]
    exact ⟨n - 1, by omega, i + 1, by omega, by simp, hk1.trans hk2⟩
  · have hi' : ¬ ((i : Nat) : Int) < ((L.length : Nat) : Int) := by omega
    simp only [hi', decide_false, e_fd, e_nck, e_pkt, e_pkf, e_gdtt, e_gdtf, e_gdft, e_gdff, e_ift, e_iff, e_not, e_ln, e_lnT, e_cp, e_cvi, e_ex20, e_ex21, e_ex30, e_ex31, e_ex32, e_add, e_sub, e_mul, e_quo, e_rem, e_and, e_or, e_xor, e_shl, e_shr, e_eql, e_neq, e_lss, e_leq, e_gtr, e_geq, e_beq, e_bne, e_peq1, e_peq2, e_pne1, e_pne2, e_zeq1, e_zeq2, e_zne1, e_zne2, e_feq1, e_fne1, e_feq2, e_fne2, e_seq, e_sne, e_ta1, e_ta2, Nat.zero_add, Nat.add_zero, Bool.not_true, Bool.not_false]
    exact hK w1 hk1
theorem words_all (h0 : Bs w0 t0 xs) (k0 : Kp (fun _ => False) w0 w) (hxl : xs.length ≤ 100000000000) (hr : Row w b e L) (hr2 : Row w b2 m M) (hb : w0.heap.size ≤ b) (hb2 : w0.heap.size ≤ b2) (hne : b ≠ b2) (hL : L.length = xs.length / 4) (hM : M.length = xs.length / 8)
    (hK : ∀ w', Kp (fun _ => False) w0 w' → K (.bool true) w') : s26_p10 K t0 (sv b 0 L.length L.length) (sv b2 0 M.length M.length) w := by
  have nb : ∀ {w1 w2 : World} {c : Nat}, w0.heap.size ≤ c → Kp (fun _ => False) w0 w1 → Kp (fun k => k = c) w1 w2 → Kp (fun _ => False) w0 w2 := fun hc hk1 hk2 => hk1.then hk2 (fun k hk (q : k = _) => by omega)
  unfold s26_p10
  refine wordsBE32_ok hr (fun w' hk => h0.kp' (nb hb k0 hk)) (by omega) (by omega) (fun hn => absurd hn (by omega)) fun _ w1 r1 hk1 => ?_
  have k1 := nb hb k0 hk1
  simp only [Bool.not_true, e_fd, e_nck, e_pkt, e_pkf, e_gdtt, e_gdtf, e_gdft, e_gdff, e_ift, e_iff, e_not, e_ln, e_lnT, e_cp, e_cvi, e_ex20, e_ex21, e_ex30, e_ex31, e_ex32, e_add, e_sub, e_mul, e_quo, e_rem, e_and, e_or, e_xor, e_shl, e_shr, e_eql, e_neq, e_lss, e_leq, e_gtr, e_geq, e_beq, e_bne, e_peq1, e_peq2, e_pne1, e_pne2, e_zeq1, e_zeq2, e_zne1, e_zne2, e_feq1, e_fne1, e_feq2, e_fne2, e_seq, e_sne, e_ta1, e_ta2, Nat.zero_add, Nat.add_zero, Bool.not_true, Bool.not_false]
  refine w4b (h0.kp' k1) hxl hL r1 fun w2 hk2 => ?_
  have k2 := k1.trans hk2
  unfold s26_p7
  have e3 : sv b 0 L.length L.length = sv b 0 (fillW (fun l => Value.int .u32 (be4 l)) 4 xs L L.length).length (fillW (fun l => Value.int .u32 (be4 l)) 4 xs L L.length).length := by rw [fillW_len]
  have r2 := hk2.row' r1
  rw [e3]
  have hL' : (fillW (fun l => Value.int .u32 (be4 l)) 4 xs L L.length).length = xs.length / 4 := by rw [fillW_len]; exact hL
  have rm2 := hk2.row' (hk1.row hr2 (fun (q : b2 = b) => hne q.symm))
  generalize fillW (fun l => Value.int .u32 (be4 l)) 4 xs L L.length = L' at r2 hL' ⊢
  refine wordsLE32_ok r2 (fun w' hk => h0.kp' (nb hb k2 hk)) (by omega) (by omega) (fun hn => absurd hn (by omega)) fun _ w3 r3 hk3 => ?_
  have k3 := nb hb k2 hk3
  simp only [Bool.not_true, e_fd, e_nck, e_pkt, e_pkf, e_gdtt, e_gdtf, e_gdft, e_gdff, e_ift, e_iff, e_not, e_ln, e_lnT, e_cp, e_cvi, e_ex20, e_ex21, e_ex30, e_ex31, e_ex32, e_add, e_sub, e_mul, e_quo, e_rem, e_and, e_or, e_xor, e_shl, e_shr, e_eql, e_neq, e_lss, e_leq, e_gtr, e_geq, e_beq, e_bne, e_peq1, e_peq2, e_pne1, e_pne2, e_zeq1, e_zeq2, e_zne1, e_zne2, e_feq1, e_fne1, e_feq2, e_fne2, e_seq, e_sne, e_ta1, e_ta2, Nat.zero_add, Nat.add_zero, Bool.not_true, Bool.not_false]
  refine w4l (h0.kp' k3) hxl hL' r3 fun w4 hk4 => ?_
  have k4 := k3.trans hk4
  unfold s26_p4
  have rm4 := hk4.row' (hk3.row rm2 (fun (q : b2 = b) => hne q.symm))
  refine wordsBE64_ok rm4 (fun w' hk => h0.kp' (nb hb2 k4 hk)) (by omega) (by omega) (fun hn => absurd hn (by omega)) fun _ w5 r5 hk5 => ?_
  have k5 := nb hb2 k4 hk5
  simp only [Bool.not_true, e_fd, e_nck, e_pkt, e_pkf, e_gdtt, e_gdtf, e_gdft, e_gdff, e_ift, e_iff, e_not, e_ln, e_lnT, e_cp, e_cvi, e_ex20, e_ex21, e_ex30, e_ex31, e_ex32, e_add, e_sub, e_mul, e_quo, e_rem, e_and, e_or, e_xor, e_shl, e_shr, e_eql, e_neq, e_lss, e_leq, e_gtr, e_geq, e_beq, e_bne, e_peq1, e_peq2, e_pne1, e_pne2, e_zeq1, e_zeq2, e_zne1, e_zne2, e_feq1, e_fne1, e_feq2, e_fne2, e_seq, e_sne, e_ta1, e_ta2, Nat.zero_add, Nat.add_zero, Bool.not_true, Bool.not_false]
  refine w8 (h0.kp' k5) hxl hM r5 fun w6 hk6 => ?_
  exact hK w6 (k5.trans hk6)
theorem wordsHold_ok (h0 : Bs w t0 xs) (hxl : xs.length ≤ 100000000000) (hK : ∀ w', Kp (fun _ => False) w w' → K (.bool true) w') : cl Try.prog 26 #[t0] K w := by
  apply c26
  unfold s26_p12 s26_p11 s26_p11_d
  have k1 : Kp (fun _ => False) w (drw w) := kp_drw
  generalize drw w = w1 at k1 ⊢
  have h1 := h0.kp' k1
  refine h1.ln ?_
  try simp only [e_fd, e_nck, e_pkt, e_pkf, e_gdtt, e_gdtf, e_gdft, e_gdff, e_ift, e_iff, e_not, e_ln, e_lnT, e_cp, e_cvi, e_ex20, e_ex21, e_ex30, e_ex31, e_ex32, e_add, e_sub, e_mul, e_quo, e_rem, e_and, e_or, e_xor, e_shl, e_shr, e_eql, e_neq, e_lss, e_leq, e_gtr, e_geq, e_beq, e_bne, e_peq1, e_peq2, e_pne1, e_pne2, e_zeq1, e_zeq2, e_zne1, e_zne2, e_feq1, e_fne1, e_feq2, e_fne2, e_seq, e_sne, e_ta1, e_ta2, Nat.zero_add, Nat.add_zero, Bool.not_true, Bool.not_false]
  refine ⟨by decide, ?_⟩
  have e4 : IntKind.i64.wrap (((xs.length : Nat) : Int).tdiv 4) = ((xs.length / 4 : Nat) : Int) := by
    rw [Int.tdiv_eq_ediv_of_nonneg (by omega), wrap64_id (by omega) (by omega)]; omega
  have e8 : IntKind.i64.wrap (((xs.length : Nat) : Int).tdiv 8) = ((xs.length / 8 : Nat) : Int) := by
    rw [Int.tdiv_eq_ediv_of_nonneg (by omega), wrap64_id (by omega) (by omega)]; omega
  rw [e4]
  refine h1.ln ?_
  refine ⟨by decide, ?_⟩
  rw [e8]
  have fin : ∀ {w2 : World} {b b2 e m : Nat}, Kp (fun _ => False) w1 w2 → Row w2 b e (List.replicate (xs.length / 4) (Value.int .u32 0)) → Row w2 b2 m (List.replicate (xs.length / 8) (Value.int .u64 0)) → w1.heap.size ≤ b → w1.heap.size ≤ b2 → b ≠ b2 → s26_p10 K t0 (sv b 0 (xs.length / 4) (xs.length / 4)) (sv b2 0 (xs.length / 8) (xs.length / 8)) w2 := fun hk2 r2 r3 hb hb2 hne => by
    have := words_all h1 hk2 hxl r2 r3 hb hb2 hne (by simp) (by simp) fun w' hk => hK w' (k1.trans hk)
    simpa using this
  constructor
  · refine mks_r (n := xs.length / 4) (by omega) (by omega) fun w2 r2 hk2 hz2 => ?_
    refine ⟨hk2.below', ?_, hk2.below', ?_⟩
    · refine mks_r (n := xs.length / 8) (by omega) (by omega) fun w3 r3 hk3 hz3 => ?_
      exact ⟨(hk2.trans hk3).below', (hk2.trans hk3).below', fin (hk2.trans hk3) (hk3.row' r2) r3 (by omega) (by omega) (by omega)⟩
    · refine mks_r (n := xs.length / 8) (by omega) (by omega) fun w3 r3 hk3 hz3 => ?_
      exact ⟨(hk2.trans hk3).below', fin (hk2.trans hk3) (hk3.row' r2) r3 (by omega) (by omega) (by omega)⟩
  · refine mks_r (n := xs.length / 8) (by omega) (by omega) fun w2 r2 hk2 hz2 => ?_
    refine ⟨hk2.below', ?_⟩
    refine mks_r (n := xs.length / 4) (by omega) (by omega) fun w3 r3 hk3 hz3 => ?_
    exact ⟨(hk2.trans hk3).below', (hk2.trans hk3).below', fin (hk2.trans hk3) r3 (hk3.row' r2) (by omega) (by omega) (by omega)⟩
end
end Go.Proofs.Qxb6500898a
