import Derived.Test.Qxb6500898aU4
namespace Go.Proofs.Qxb6500898a
open Go.Sh Go.RowKit
set_option linter.unusedVariables false
set_option linter.unusedSimpArgs false

theorem Bs.dropW {w0 w : World} {v : Value} {xs : List Int} {K : Value → World → Prop} (h : Bs w0 v xs) (n : Nat) {ii : Int} (hii : ii = (n : Int)) (hn : n ≤ xs.length) (hx : 0 < xs.length) (hK : ∀ v', Bs w0 v' (xs.drop n) → K v' w) : sls 1 v (some (.int .i64 ii)) none K w := by
  subst hii
  have := h.drop (K := fun v _ => K v w) hn hx hK
  rcases h.at_ with ⟨rfl, rfl⟩ | ⟨a, cap, rfl, rfl⟩ | ⟨b, o, cap, rfl, h1, h2, hc⟩
  · simp at hx
  · simp at hx
  · exact this
theorem Bs.takeW {w0 w : World} {v : Value} {xs : List Int} {K : Value → World → Prop} (h : Bs w0 v xs) (n : Nat) {ii : Int} (hii : ii = (n : Int)) (hn : n ≤ xs.length) (hx : 0 < xs.length) (hK : ∀ v', Bs w0 v' (xs.take n) → K v' w) : sls 1 v none (some (.int .i64 ii)) K w := by
  subst hii
  have := h.take (K := fun v _ => K v w) hn hx hK
  rcases h.at_ with ⟨rfl, rfl⟩ | ⟨a, cap, rfl, rfl⟩ | ⟨b, o, cap, rfl, h1, h2, hc⟩
  · simp at hx
  · simp at hx
  · exact this

theorem payF_succ (c : Int) (l : List Int) {j : Nat} (hj : j < l.length) : payF c (l.take (j + 1)) = payF c (l.take j) * 64 + l[j] % 64 := by
  unfold payF
  rw [List.take_succ_eq_append_getElem hj, List.foldl_append]
  rfl
def bd (j : Nat) : Int := 256 * 64 ^ j
theorem bd_s (j : Nat) : bd (j + 1) = bd j * 64 := by unfold bd; rw [Int.pow_succ]; omega
theorem bd_le {j : Nat} (h : j ≤ 3) : bd j ≤ 67108864 := by
  have : j = 0 ∨ j = 1 ∨ j = 2 ∨ j = 3 := by omega
  rcases this with rfl | rfl | rfl | rfl <;> decide

theorem pay_loop {w : World} {v : Value} {zs : List Int} {c : Int} {K : Value → World → Prop} (h : Bs w v zs) (hl : zs.length ≤ 3) (c0 : 0 ≤ c) (c1 : c ≤ 255) (hK : ∀ w', Kp (fun _ => False) w w' → K (I (payF c zs)) w') :
    s106_p3 K (I c) v (I zs.length) (I 0) w := by
  unfold s106_p3
  refine ⟨fun m l w' => ∃ j : Nat, j ≤ zs.length ∧ m = zs.length - j ∧ l = [I (payF c (zs.take j)), v, I zs.length, I j] ∧ Kp (fun _ => False) w w' ∧ 0 ≤ payF c (zs.take j) ∧ payF c (zs.take j) < bd j,
    zs.length, ⟨0, by omega, by omega, by simp [payF], Kp.refl _ _, by simpa [payF] using c0, by simp [payF, bd]; omega⟩, ?_⟩
  rintro m l w1 ⟨j, hj, hm, rfl, hk1, h0, h1⟩
  rw [s106_p3_Fe]
  unfold s106_p2
  try simp only [e_fd, e_nck, e_pkt, e_pkf, e_gdtt, e_gdtf, e_gdft, e_gdff, e_ift, e_iff, e_not, e_ln, e_lnT, e_cp, e_cvi, e_ex20, e_ex21, e_ex30, e_ex31, e_ex32, e_add, e_sub, e_mul, e_quo, e_rem, e_and, e_or, e_xor, e_shl, e_shr, e_eql, e_neq, e_lss, e_leq, e_gtr, e_geq, e_beq, e_bne, e_peq1, e_peq2, e_pne1, e_pne2, e_zeq1, e_zeq2, e_zne1, e_zne2, e_feq1, e_fne1, e_feq2, e_fne2, e_seq, e_sne, e_ta1, e_ta2, Nat.zero_add, Nat.add_zero, Bool.not_true, Bool.not_false]
  by_cases hlt : j < zs.length
  · have hlt' : (j : Int) < (zs.length : Int) := by omega
    simp only [hlt', decide_true, e_fd, e_nck, e_pkt, e_pkf, e_gdtt, e_gdtf, e_gdft, e_gdff, e_ift, e_iff, e_not, e_ln, e_lnT, e_cp, e_cvi, e_ex20, e_ex21, e_ex30, e_ex31, e_ex32, e_add, e_sub, e_mul, e_quo, e_rem, e_and, e_or, e_xor, e_shl, e_shr, e_eql, e_neq, e_lss, e_leq, e_gtr, e_geq, e_beq, e_bne, e_peq1, e_peq2, e_pne1, e_pne2, e_zeq1, e_zeq2, e_zne1, e_zne2, e_feq1, e_fne1, e_feq2, e_fne2, e_seq, e_sne, e_ta1, e_ta2, Nat.zero_add, Nat.add_zero, Bool.not_true, Bool.not_false]
    have hb := (h.kp' hk1).get hlt
    refine (h.kp' hk1).ix hlt fun b q hld => hld _ ?_
    try simp only [e_fd, e_nck, e_pkt, e_pkf, e_gdtt, e_gdtf, e_gdft, e_gdff, e_ift, e_iff, e_not, e_ln, e_lnT, e_cp, e_cvi, e_ex20, e_ex21, e_ex30, e_ex31, e_ex32, e_add, e_sub, e_mul, e_quo, e_rem, e_and, e_or, e_xor, e_shl, e_shr, e_eql, e_neq, e_lss, e_leq, e_gtr, e_geq, e_beq, e_bne, e_peq1, e_peq2, e_pne1, e_pne2, e_zeq1, e_zeq2, e_zne1, e_zne2, e_feq1, e_fne1, e_feq2, e_fne2, e_seq, e_sne, e_ta1, e_ta2, Nat.zero_add, Nat.add_zero, Bool.not_true, Bool.not_false]
    refine ⟨by decide, ?_⟩
    have hbd := bd_le (show j ≤ 3 by omega)
    rw [wrap64_id (n := zs[j]) (by omega) (by omega), tmod_pos hb.1, wrap64_id (n := _ * 64) (by omega) (by omega), wrap64_id (n := _ * 64 + _) (by omega) (by omega), wrap64_id (n := (j : Int) + 1) (by omega) (by omega)]
    have e := payF_succ c zs hlt
    refine ⟨zs.length - (j + 1), by omega, j + 1, by omega, rfl, by rw [e]; simp, hk1, ?_, ?_⟩
    · rw [e]; omega
    · rw [e, bd_s]; omega
  · have hlt' : ¬ (j : Int) < (zs.length : Int) := by omega
    simp only [hlt', decide_false, e_fd, e_nck, e_pkt, e_pkf, e_gdtt, e_gdtf, e_gdft, e_gdff, e_ift, e_iff, e_not, e_ln, e_lnT, e_cp, e_cvi, e_ex20, e_ex21, e_ex30, e_ex31, e_ex32, e_add, e_sub, e_mul, e_quo, e_rem, e_and, e_or, e_xor, e_shl, e_shr, e_eql, e_neq, e_lss, e_leq, e_gtr, e_geq, e_beq, e_bne, e_peq1, e_peq2, e_pne1, e_pne2, e_zeq1, e_zeq2, e_zne1, e_zne2, e_feq1, e_fne1, e_feq2, e_fne2, e_seq, e_sne, e_ta1, e_ta2, Nat.zero_add, Nat.add_zero, Bool.not_true, Bool.not_false]
    unfold s106_p1
    rw [List.take_of_length_le (by omega)]
    exact hK w1 hk1

theorem payload_ok {w : World} {v : Value} {ys : List Int} {K : Value → World → Prop} (h : Bs w v ys) (h1 : 1 ≤ ys.length) (h4 : ys.length ≤ 4) (hK : ∀ w', Kp (fun _ => False) w w' → K (I (pay ys)) w') : cl Try.prog 106 #[v] K w := by
  apply c106
  unfold s106_p5
  refine h.ln ?_
  have g0' := h.gb 0
  have fin : ∀ c, 0 ≤ c → c ≤ 255 → pay ys = payF c (ys.drop 1) → s106_p4 K v (I c) w := by
    intro c a0 a1 e
    unfold s106_p4
    refine h.dropW 1 rfl h1 (by omega) fun v' hv' => ?_
    refine hv'.ln ?_
    refine pay_loop hv' (by rw [List.length_drop]; omega) a0 a1 ?_
    rw [← e]; exact hK
  have hn : ys.length = 1 ∨ ys.length = 2 ∨ ys.length = 3 ∨ ys.length = 4 := by omega
  try simp only [e_fd, e_nck, e_pkt, e_pkf, e_gdtt, e_gdtf, e_gdft, e_gdff, e_ift, e_iff, e_not, e_ln, e_lnT, e_cp, e_cvi, e_ex20, e_ex21, e_ex30, e_ex31, e_ex32, e_add, e_sub, e_mul, e_quo, e_rem, e_and, e_or, e_xor, e_shl, e_shr, e_eql, e_neq, e_lss, e_leq, e_gtr, e_geq, e_beq, e_bne, e_peq1, e_peq2, e_pne1, e_pne2, e_zeq1, e_zeq2, e_zne1, e_zne2, e_feq1, e_fne1, e_feq2, e_fne2, e_seq, e_sne, e_ta1, e_ta2, Nat.zero_add, Nat.add_zero, Bool.not_true, Bool.not_false]
  have ew : IntKind.i64.wrap (g ys 0) = g ys 0 := wrap64_id (by omega) (by omega)
  rcases hn with hn | hn | hn | hn
  · have e1 : ((ys.length : Int) == 1) = true := by rw [hn]; rfl
    simp only [e1, e_fd, e_nck, e_pkt, e_pkf, e_gdtt, e_gdtf, e_gdft, e_gdff, e_ift, e_iff, e_not, e_ln, e_lnT, e_cp, e_cvi, e_ex20, e_ex21, e_ex30, e_ex31, e_ex32, e_add, e_sub, e_mul, e_quo, e_rem, e_and, e_or, e_xor, e_shl, e_shr, e_eql, e_neq, e_lss, e_leq, e_gtr, e_geq, e_beq, e_bne, e_peq1, e_peq2, e_pne1, e_pne2, e_zeq1, e_zeq2, e_zne1, e_zne2, e_feq1, e_fne1, e_feq2, e_fne2, e_seq, e_sne, e_ta1, e_ta2, Nat.zero_add, Nat.add_zero, Bool.not_true, Bool.not_false]
    refine h.ixg 0 rfl (by omega) fun b q hld => hld _ ?_
    try simp only [e_fd, e_nck, e_pkt, e_pkf, e_gdtt, e_gdtf, e_gdft, e_gdff, e_ift, e_iff, e_not, e_ln, e_lnT, e_cp, e_cvi, e_ex20, e_ex21, e_ex30, e_ex31, e_ex32, e_add, e_sub, e_mul, e_quo, e_rem, e_and, e_or, e_xor, e_shl, e_shr, e_eql, e_neq, e_lss, e_leq, e_gtr, e_geq, e_beq, e_bne, e_peq1, e_peq2, e_pne1, e_pne2, e_zeq1, e_zeq2, e_zne1, e_zne2, e_feq1, e_fne1, e_feq2, e_fne2, e_seq, e_sne, e_ta1, e_ta2, Nat.zero_add, Nat.add_zero, Bool.not_true, Bool.not_false]
    rw [ew]
    exact fin _ (by omega) (by omega) (by unfold pay; rw [if_pos hn])
  · have e1 : ((ys.length : Int) == 1) = false := by rw [hn]; rfl
    have e2 : ((ys.length : Int) == 2) = true := by rw [hn]; rfl
    simp only [e1, e2, e_fd, e_nck, e_pkt, e_pkf, e_gdtt, e_gdtf, e_gdft, e_gdff, e_ift, e_iff, e_not, e_ln, e_lnT, e_cp, e_cvi, e_ex20, e_ex21, e_ex30, e_ex31, e_ex32, e_add, e_sub, e_mul, e_quo, e_rem, e_and, e_or, e_xor, e_shl, e_shr, e_eql, e_neq, e_lss, e_leq, e_gtr, e_geq, e_beq, e_bne, e_peq1, e_peq2, e_pne1, e_pne2, e_zeq1, e_zeq2, e_zne1, e_zne2, e_feq1, e_fne1, e_feq2, e_fne2, e_seq, e_sne, e_ta1, e_ta2, Nat.zero_add, Nat.add_zero, Bool.not_true, Bool.not_false]
    refine h.ixg 0 rfl (by omega) fun b q hld => hld _ ?_
    try simp only [e_fd, e_nck, e_pkt, e_pkf, e_gdtt, e_gdtf, e_gdft, e_gdff, e_ift, e_iff, e_not, e_ln, e_lnT, e_cp, e_cvi, e_ex20, e_ex21, e_ex30, e_ex31, e_ex32, e_add, e_sub, e_mul, e_quo, e_rem, e_and, e_or, e_xor, e_shl, e_shr, e_eql, e_neq, e_lss, e_leq, e_gtr, e_geq, e_beq, e_bne, e_peq1, e_peq2, e_pne1, e_pne2, e_zeq1, e_zeq2, e_zne1, e_zne2, e_feq1, e_fne1, e_feq2, e_fne2, e_seq, e_sne, e_ta1, e_ta2, Nat.zero_add, Nat.add_zero, Bool.not_true, Bool.not_false]
    rw [ew]
    refine ⟨by decide, ?_⟩
    rw [tmod_pos g0'.1]
    exact fin _ (by omega) (by omega) (by unfold pay; rw [if_neg (by omega), if_pos hn])
  · have e1 : ((ys.length : Int) == 1) = false := by rw [hn]; rfl
    have e2 : ((ys.length : Int) == 2) = false := by rw [hn]; rfl
    have e3 : ((ys.length : Int) == 3) = true := by rw [hn]; rfl
    simp only [e1, e2, e3, e_fd, e_nck, e_pkt, e_pkf, e_gdtt, e_gdtf, e_gdft, e_gdff, e_ift, e_iff, e_not, e_ln, e_lnT, e_cp, e_cvi, e_ex20, e_ex21, e_ex30, e_ex31, e_ex32, e_add, e_sub, e_mul, e_quo, e_rem, e_and, e_or, e_xor, e_shl, e_shr, e_eql, e_neq, e_lss, e_leq, e_gtr, e_geq, e_beq, e_bne, e_peq1, e_peq2, e_pne1, e_pne2, e_zeq1, e_zeq2, e_zne1, e_zne2, e_feq1, e_fne1, e_feq2, e_fne2, e_seq, e_sne, e_ta1, e_ta2, Nat.zero_add, Nat.add_zero, Bool.not_true, Bool.not_false]
    refine h.ixg 0 rfl (by omega) fun b q hld => hld _ ?_
    try simp only [e_fd, e_nck, e_pkt, e_pkf, e_gdtt, e_gdtf, e_gdft, e_gdff, e_ift, e_iff, e_not, e_ln, e_lnT, e_cp, e_cvi, e_ex20, e_ex21, e_ex30, e_ex31, e_ex32, e_add, e_sub, e_mul, e_quo, e_rem, e_and, e_or, e_xor, e_shl, e_shr, e_eql, e_neq, e_lss, e_leq, e_gtr, e_geq, e_beq, e_bne, e_peq1, e_peq2, e_pne1, e_pne2, e_zeq1, e_zeq2, e_zne1, e_zne2, e_feq1, e_fne1, e_feq2, e_fne2, e_seq, e_sne, e_ta1, e_ta2, Nat.zero_add, Nat.add_zero, Bool.not_true, Bool.not_false]
    rw [ew]
    refine ⟨by decide, ?_⟩
    rw [tmod_pos g0'.1]
    exact fin _ (by omega) (by omega) (by unfold pay; rw [if_neg (by omega), if_neg (by omega), if_pos hn])
  · have e1 : ((ys.length : Int) == 1) = false := by rw [hn]; rfl
    have e2 : ((ys.length : Int) == 2) = false := by rw [hn]; rfl
    have e3 : ((ys.length : Int) == 3) = false := by rw [hn]; rfl
    have e4 : ((ys.length : Int) == 4) = true := by rw [hn]; rfl
    simp only [e1, e2, e3, e4, e_fd, e_nck, e_pkt, e_pkf, e_gdtt, e_gdtf, e_gdft, e_gdff, e_ift, e_iff, e_not, e_ln, e_lnT, e_cp, e_cvi, e_ex20, e_ex21, e_ex30, e_ex31, e_ex32, e_add, e_sub, e_mul, e_quo, e_rem, e_and, e_or, e_xor, e_shl, e_shr, e_eql, e_neq, e_lss, e_leq, e_gtr, e_geq, e_beq, e_bne, e_peq1, e_peq2, e_pne1, e_pne2, e_zeq1, e_zeq2, e_zne1, e_zne2, e_feq1, e_fne1, e_feq2, e_fne2, e_seq, e_sne, e_ta1, e_ta2, Nat.zero_add, Nat.add_zero, Bool.not_true, Bool.not_false]
    refine h.ixg 0 rfl (by omega) fun b q hld => hld _ ?_
    try simp only [e_fd, e_nck, e_pkt, e_pkf, e_gdtt, e_gdtf, e_gdft, e_gdff, e_ift, e_iff, e_not, e_ln, e_lnT, e_cp, e_cvi, e_ex20, e_ex21, e_ex30, e_ex31, e_ex32, e_add, e_sub, e_mul, e_quo, e_rem, e_and, e_or, e_xor, e_shl, e_shr, e_eql, e_neq, e_lss, e_leq, e_gtr, e_geq, e_beq, e_bne, e_peq1, e_peq2, e_pne1, e_pne2, e_zeq1, e_zeq2, e_zne1, e_zne2, e_feq1, e_fne1, e_feq2, e_fne2, e_seq, e_sne, e_ta1, e_ta2, Nat.zero_add, Nat.add_zero, Bool.not_true, Bool.not_false]
    rw [ew]
    refine ⟨by decide, ?_⟩
    rw [tmod_pos g0'.1]
    exact fin _ (by omega) (by omega) (by unfold pay; rw [if_neg (by omega), if_neg (by omega), if_neg (by omega), if_pos hn])

theorem pay_by {ys : List Int} (hb : ∀ x ∈ ys, 0 ≤ x ∧ x ≤ 255) (h1 : 1 ≤ ys.length) (h4 : ys.length ≤ 4) : 0 ≤ pay ys ∧ pay ys ≤ 2097151 := by
  match ys, hb, h1, h4 with
  | [a], hb, _, _ => rw [pay1]; have := hb a (by simp); omega
  | [a, b], hb, _, _ => rw [pay2]; have := hb a (by simp); have := hb b (by simp); omega
  | [a, b, c], hb, _, _ => rw [pay3]; have := hb a (by simp); have := hb b (by simp); have := hb c (by simp); omega
  | [a, b, c, d], hb, _, _ => rw [pay4]; have := hb a (by simp); have := hb b (by simp); have := hb c (by simp); have := hb d (by simp); omega

/-! ### a whole string -/
def decA : Nat → List Int → Option (List Int)
  | 0, xs => if xs.length = 0 then some [] else none
  | f + 1, xs => if xs.length = 0 then some [] else match dec xs with
    | none => none
    | some (v, n) => (decA f (xs.drop n)).map (v :: ·)
theorem decA_f : ∀ (f f' : Nat) (xs : List Int), xs.length ≤ f → xs.length ≤ f' → decA f xs = decA f' xs
  | 0, 0, xs, _, _ => rfl
  | 0, f' + 1, xs, h, _ => by unfold decA; rw [if_pos (by omega), if_pos (by omega)]
  | f + 1, 0, xs, _, h => by unfold decA; rw [if_pos (by omega), if_pos (by omega)]
  | f + 1, f' + 1, xs, h, h' => by
    unfold decA
    by_cases e : xs.length = 0
    · rw [if_pos e, if_pos e]
    · rw [if_neg e, if_neg e]
      cases hd : dec xs with
      | none => rfl
      | some p =>
        obtain ⟨v, n⟩ := p
        have := dec_len hd
        simp only
        rw [decA_f f f' (xs.drop n) (by rw [List.length_drop]; omega) (by rw [List.length_drop]; omega)]
def D (xs : List Int) : Option (List Int) := decA xs.length xs
theorem D_nil : D [] = some [] := rfl
theorem D_none {xs : List Int} (h : 0 < xs.length) (hd : dec xs = none) : D xs = none := by
  unfold D
  cases hl : xs.length with
  | zero => omega
  | succ n => unfold decA; rw [if_neg (by omega), hd]
theorem D_some {xs : List Int} {v : Int} {n : Nat} (hd : dec xs = some (v, n)) : D xs = (D (xs.drop n)).map (v :: ·) := by
  have := dec_len hd
  unfold D
  cases hl : xs.length with
  | zero => omega
  | succ m =>
    conv => lhs; unfold decA
    rw [if_neg (by omega), hd]
    simp only
    rw [decA_f m (xs.drop n).length (xs.drop n) (by rw [List.length_drop]; omega) (Nat.le_refl _)]
end Go.Proofs.Qxb6500898a
