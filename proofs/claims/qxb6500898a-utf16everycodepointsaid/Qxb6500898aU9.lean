import Derived.Test.Qxb6500898aU8
namespace Go.Proofs.Qxb6500898a
open Go.Sh Go.RowKit
set_option linter.unusedVariables false
set_option linter.unusedSimpArgs false

theorem strT : Try.prog.underlying 86 = some .string := by kernel_rfl
theorem strC : (Try.prog.info? 86).map (·.comparable) = some true := by kernel_rfl

theorem ba_refl (a : ByteArray) : (a == a) = true := by
  show (a.data == a.data) = true
  simp

theorem units_bs {w : World} {xs r : List Int} {ob : Option Nat} {t : Value} (hb : ∀ x ∈ xs, 0 ≤ x ∧ x ≤ 255) (hd : D xs = some r) (hl : r.length ≤ 1099511627776) (h : Sl u1 1 w 5 ob t (le2 (units r))) : Bs w t (le2 (units r)) := by
  refine sl_bs h (le2_by (units_by (D_by hb hd))) ?_
  have := units_len r
  rw [le2_len]; omega

theorem D_len {xs : List Int} {r : List Int} (h : D xs = some r) : r.length ≤ xs.length := by
  have key : ∀ (f : Nat) (xs r : List Int), decA f xs = some r → r.length ≤ xs.length := by
    intro f
    induction f with
    | zero =>
      intro xs r h
      unfold decA at h
      split at h
      · cases h; simp
      · cases h
    | succ f ih =>
      intro xs r h
      unfold decA at h
      split at h
      · cases h; simp
      · split at h
        · cases h
        · rename_i u n hd
          cases hq : decA f (xs.drop n) with
          | none => rw [hq] at h; cases h
          | some r' =>
            rw [hq] at h
            have h : u :: r' = r := Option.some.inj h
            subst h
            have := ih _ _ hq
            have := dec_len hd
            rw [List.length_drop] at *
            rw [List.length_cons]
            omega
  exact key _ xs r h

theorem holds16_ok {w : World} {v : Value} {xs : List Int} {K : Value → World → Prop} (h : Bs w v xs) (hl : xs.length ≤ 1000000000000)
    (hK : ∀ w', Kp (fun _ => False) w w' → K (.bool true) w') : cl Try.prog 21 #[v] K w := by
  apply c21
  unfold s21_p1
  refine utf16m_ok h (by omega) (fun w1 hk1 hd => ?_) (fun w1 t1 r ob1 hd hs1 ho1 hk1 => ?_)
  · simp only [e_fd, e_nck, e_pkt, e_pkf, e_gdtt, e_gdtf, e_gdft, e_gdff, e_ift, e_iff, e_not, e_ln, e_lnT, e_cp, e_cvi, e_ex20, e_ex21, e_ex30, e_ex31, e_ex32, e_add, e_sub, e_mul, e_quo, e_rem, e_and, e_or, e_xor, e_shl, e_shr, e_eql, e_neq, e_lss, e_leq, e_gtr, e_geq, e_beq, e_bne, e_peq1, e_peq2, e_pne1, e_pne2, e_zeq1, e_zeq2, e_zne1, e_zne2, e_feq1, e_fne1, e_feq2, e_fne2, e_seq, e_sne, e_ta1, e_ta2, Nat.zero_add, Nat.add_zero, Bool.not_true, Bool.not_false]
    refine utf16_ok (h.kp' hk1) hl (fun w2 hk2 _ => ?_) (fun w2 t2 r ob2 hd' _ _ _ => ?_)
    · simp only [e_fd, e_nck, e_pkt, e_pkf, e_gdtt, e_gdtf, e_gdft, e_gdff, e_ift, e_iff, e_not, e_ln, e_lnT, e_cp, e_cvi, e_ex20, e_ex21, e_ex30, e_ex31, e_ex32, e_add, e_sub, e_mul, e_quo, e_rem, e_and, e_or, e_xor, e_shl, e_shr, e_eql, e_neq, e_lss, e_leq, e_gtr, e_geq, e_beq, e_bne, e_peq1, e_peq2, e_pne1, e_pne2, e_zeq1, e_zeq2, e_zne1, e_zne2, e_feq1, e_fne1, e_feq2, e_fne2, e_seq, e_sne, e_ta1, e_ta2, Nat.zero_add, Nat.add_zero, Bool.not_true, Bool.not_false]
      refine len16_ok (h.kp' (hk1.trans hk2)) (by omega) (fun w3 hk3 _ => ?_) (fun w3 r hd' _ _ => ?_)
      · unfold illV
        try simp only [e_fd, e_nck, e_pkt, e_pkf, e_gdtt, e_gdtf, e_gdft, e_gdff, e_ift, e_iff, e_not, e_ln, e_lnT, e_cp, e_cvi, e_ex20, e_ex21, e_ex30, e_ex31, e_ex32, e_add, e_sub, e_mul, e_quo, e_rem, e_and, e_or, e_xor, e_shl, e_shr, e_eql, e_neq, e_lss, e_leq, e_gtr, e_geq, e_beq, e_bne, e_peq1, e_peq2, e_pne1, e_pne2, e_zeq1, e_zeq2, e_zne1, e_zne2, e_feq1, e_fne1, e_feq2, e_fne2, e_seq, e_sne, e_ta1, e_ta2, Nat.zero_add, Nat.add_zero, Bool.not_true, Bool.not_false]
        refine boF_s strT strC ?_
        rw [ba_refl]
        try simp only [e_fd, e_nck, e_pkt, e_pkf, e_gdtt, e_gdtf, e_gdft, e_gdff, e_ift, e_iff, e_not, e_ln, e_lnT, e_cp, e_cvi, e_ex20, e_ex21, e_ex30, e_ex31, e_ex32, e_add, e_sub, e_mul, e_quo, e_rem, e_and, e_or, e_xor, e_shl, e_shr, e_eql, e_neq, e_lss, e_leq, e_gtr, e_geq, e_beq, e_bne, e_peq1, e_peq2, e_pne1, e_pne2, e_zeq1, e_zeq2, e_zne1, e_zne2, e_feq1, e_fne1, e_feq2, e_fne2, e_seq, e_sne, e_ta1, e_ta2, Nat.zero_add, Nat.add_zero, Bool.not_true, Bool.not_false]
        refine boF_s strT strC ?_
        rw [ba_refl]
        have ez : (((0 : Nat) : Int) == 0) = true := rfl
        have ez' : ((0 : Int) == 0) = true := rfl
        simp only [ez, ez', e_fd, e_nck, e_pkt, e_pkf, e_gdtt, e_gdtf, e_gdft, e_gdff, e_ift, e_iff, e_not, e_ln, e_lnT, e_cp, e_cvi, e_ex20, e_ex21, e_ex30, e_ex31, e_ex32, e_add, e_sub, e_mul, e_quo, e_rem, e_and, e_or, e_xor, e_shl, e_shr, e_eql, e_neq, e_lss, e_leq, e_gtr, e_geq, e_beq, e_bne, e_peq1, e_peq2, e_pne1, e_pne2, e_zeq1, e_zeq2, e_zne1, e_zne2, e_feq1, e_fne1, e_feq2, e_fne2, e_seq, e_sne, e_ta1, e_ta2, Nat.zero_add, Nat.add_zero, Bool.not_true, Bool.not_false]
        exact hK w3 ((hk1.trans hk2).trans hk3)
      · rw [hd] at hd'; cases hd'
    · rw [hd] at hd'; cases hd'
  · simp only [e_fd, e_nck, e_pkt, e_pkf, e_gdtt, e_gdtf, e_gdft, e_gdff, e_ift, e_iff, e_not, e_ln, e_lnT, e_cp, e_cvi, e_ex20, e_ex21, e_ex30, e_ex31, e_ex32, e_add, e_sub, e_mul, e_quo, e_rem, e_and, e_or, e_xor, e_shl, e_shr, e_eql, e_neq, e_lss, e_leq, e_gtr, e_geq, e_beq, e_bne, e_peq1, e_peq2, e_pne1, e_pne2, e_zeq1, e_zeq2, e_zne1, e_zne2, e_feq1, e_fne1, e_feq2, e_fne2, e_seq, e_sne, e_ta1, e_ta2, Nat.zero_add, Nat.add_zero, Bool.not_true, Bool.not_false]
    refine utf16_ok (h.kp' hk1) hl (fun w2 hk2 hd' => ?_) (fun w2 t2 r2 ob2 hd2 hs2 ho2 hk2 => ?_)
    · rw [hd] at hd'; cases hd'
    · rw [hd] at hd2
      cases hd2
      try simp only [e_fd, e_nck, e_pkt, e_pkf, e_gdtt, e_gdtf, e_gdft, e_gdff, e_ift, e_iff, e_not, e_ln, e_lnT, e_cp, e_cvi, e_ex20, e_ex21, e_ex30, e_ex31, e_ex32, e_add, e_sub, e_mul, e_quo, e_rem, e_and, e_or, e_xor, e_shl, e_shr, e_eql, e_neq, e_lss, e_leq, e_gtr, e_geq, e_beq, e_bne, e_peq1, e_peq2, e_pne1, e_pne2, e_zeq1, e_zeq2, e_zne1, e_zne2, e_feq1, e_fne1, e_feq2, e_fne2, e_seq, e_sne, e_ta1, e_ta2, Nat.zero_add, Nat.add_zero, Bool.not_true, Bool.not_false]
      refine len16_ok (h.kp' (hk1.trans hk2)) (by omega) (fun w3 hk3 hd' => ?_) (fun w3 r3 hd3 hk3 hrl => ?_)
      · rw [hd] at hd'; cases hd'
      · rw [hd] at hd3
        cases hd3
        have b1 := units_bs h.by_ hd (by omega) (hs1.kp' (hk2.trans hk3))
        have b2 := units_bs h.by_ hd (by omega) (hs2.kp' hk3)
        try simp only [e_fd, e_nck, e_pkt, e_pkf, e_gdtt, e_gdtf, e_gdft, e_gdff, e_ift, e_iff, e_not, e_ln, e_lnT, e_cp, e_cvi, e_ex20, e_ex21, e_ex30, e_ex31, e_ex32, e_add, e_sub, e_mul, e_quo, e_rem, e_and, e_or, e_xor, e_shl, e_shr, e_eql, e_neq, e_lss, e_leq, e_gtr, e_geq, e_beq, e_bne, e_peq1, e_peq2, e_pne1, e_pne2, e_zeq1, e_zeq2, e_zne1, e_zne2, e_feq1, e_fne1, e_feq2, e_fne2, e_seq, e_sne, e_ta1, e_ta2, Nat.zero_add, Nat.add_zero, Bool.not_true, Bool.not_false]
        refine b1.ln ?_
        try simp only [e_fd, e_nck, e_pkt, e_pkf, e_gdtt, e_gdtf, e_gdft, e_gdff, e_ift, e_iff, e_not, e_ln, e_lnT, e_cp, e_cvi, e_ex20, e_ex21, e_ex30, e_ex31, e_ex32, e_add, e_sub, e_mul, e_quo, e_rem, e_and, e_or, e_xor, e_shl, e_shr, e_eql, e_neq, e_lss, e_leq, e_gtr, e_geq, e_beq, e_bne, e_peq1, e_peq2, e_pne1, e_pne2, e_zeq1, e_zeq2, e_zne1, e_zne2, e_feq1, e_fne1, e_feq2, e_fne2, e_seq, e_sne, e_ta1, e_ta2, Nat.zero_add, Nat.add_zero, Bool.not_true, Bool.not_false]
        have e : (((2 * (units r).length : Nat) : Int) == ((le2 (units r)).length : Int)) = true := by rw [le2_len]; simp
        simp only [e, e_fd, e_nck, e_pkt, e_pkf, e_gdtt, e_gdtf, e_gdft, e_gdff, e_ift, e_iff, e_not, e_ln, e_lnT, e_cp, e_cvi, e_ex20, e_ex21, e_ex30, e_ex31, e_ex32, e_add, e_sub, e_mul, e_quo, e_rem, e_and, e_or, e_xor, e_shl, e_shr, e_eql, e_neq, e_lss, e_leq, e_gtr, e_geq, e_beq, e_bne, e_peq1, e_peq2, e_pne1, e_pne2, e_zeq1, e_zeq2, e_zne1, e_zne2, e_feq1, e_fne1, e_feq2, e_fne2, e_seq, e_sne, e_ta1, e_ta2, Nat.zero_add, Nat.add_zero, Bool.not_true, Bool.not_false]
        refine same_ok b2 b1 fun w4 hk4 => ?_
        rw [decide_eq_true rfl]
        try simp only [e_fd, e_nck, e_pkt, e_pkf, e_gdtt, e_gdtf, e_gdft, e_gdff, e_ift, e_iff, e_not, e_ln, e_lnT, e_cp, e_cvi, e_ex20, e_ex21, e_ex30, e_ex31, e_ex32, e_add, e_sub, e_mul, e_quo, e_rem, e_and, e_or, e_xor, e_shl, e_shr, e_eql, e_neq, e_lss, e_leq, e_gtr, e_geq, e_beq, e_bne, e_peq1, e_peq2, e_pne1, e_pne2, e_zeq1, e_zeq2, e_zne1, e_zne2, e_feq1, e_fne1, e_feq2, e_fne2, e_seq, e_sne, e_ta1, e_ta2, Nat.zero_add, Nat.add_zero, Bool.not_true, Bool.not_false]
        exact hK w4 (((hk1.trans hk2).trans hk3).trans hk4)

/-! ### one code point -/
theorem pay_sp8 {cp : Int} (h0 : 0 ≤ cp) (h1 : cp ≤ 2097151) : pay (sp8 cp) = cp := by
  unfold sp8
  split
  · rw [pay1]
  split
  · rw [pay2]; omega
  split
  · rw [pay3]; omega
  · rw [pay4]; omega
theorem D_sc {cp : Int} (h : isSc cp) : D (sp8 cp) = some [cp] := by
  have h' := h
  unfold isSc at h'
  have hb := sp8_by (cp := cp) (by omega) (by omega)
  have hl := sp8_len cp
  have hd : dec (sp8 cp) = some (cp, (sp8 cp).length) := by
    have := (okN_iff hb hl.1 hl.2 (Nat.le_refl _)).1 ⟨Nat.le_refl _, ?_, ?_⟩
    · rw [List.take_length, pay_sp8 (by omega) (by omega)] at this
      exact this
    · rw [List.take_length, pay_sp8 (by omega) (by omega)]; exact h
    · rw [List.take_length, pay_sp8 (by omega) (by omega)]
  rw [D_some hd, List.drop_length, D_nil]
  rfl
theorem D_nsc {cp : Int} (h : ¬ isSc cp) (h0 : 0 ≤ cp) (h1 : cp ≤ 2097151) : D (sp8 cp) = none := by
  have hl := sp8_len cp
  refine D_none (by omega) ?_
  unfold isSc at h
  by_cases c : cp < 65536
  · have es : sp8 cp = [224 + cp / 4096, 128 + cp / 64 % 64, 128 + cp % 64] := by
      unfold sp8
      rw [if_neg (by omega), if_neg (by omega), if_pos c]
    rw [es]
    unfold dec
    rw [g0, gs, g0, gs, gs, g0]
    rw [if_neg (by simp), if_neg (by omega), if_neg (by omega), if_neg (by omega), if_pos (by omega)]
    split
    · rfl
    · rw [if_pos (by omega)]
  · have es : sp8 cp = [240 + cp / 262144, 128 + cp / 4096 % 64, 128 + cp / 64 % 64, 128 + cp % 64] := by
      unfold sp8
      rw [if_neg (by omega), if_neg (by omega), if_neg c]
    rw [es]
    unfold dec
    rw [g0, gs, g0, gs, gs, g0, gs, gs, gs, g0]
    rw [if_neg (by simp), if_neg (by omega), if_neg (by omega), if_neg (by omega), if_neg (by omega)]
    split
    · split
      · rfl
      · rw [if_pos (by omega)]
    · rfl

def tails : List Int := [127, 128, 191, 192]

/-- the second half: short strings about the borders -/
theorem s9_short {w : World} {K : Value → World → Prop} (hK : ∀ w', Kp (fun _ => False) w w' → K (.bool true) w') : s9_p16 K w := by
  unfold s9_p16
  refine bsq_r (l := tails.map U8) rfl fun w0 r0 hk0 hz0 => ?_
  have ht : Bs w0 (.slice (some ⟨w.heap.size, 0, none⟩) 4 4) tails := bs_new (xs := tails) (cap := 4) (junk := []) (by decide) (by rw [List.append_nil]; exact r0) (by decide) (by decide)
  generalize hT : Value.slice (some ⟨w.heap.size, 0, none⟩) 4 4 = T at *
  have hby : ∀ x : Int, x ∈ tails → 0 ≤ x ∧ x ≤ 255 := ht.by_
  unfold s9_p15
  refine ⟨fun m l w' => ∃ a : Int, 0 ≤ a ∧ a ≤ 256 ∧ m = (256 - a).toNat ∧ l = [T, I a] ∧ Kp (fun _ => False) w0 w', 256, ⟨0, by omega, by omega, by decide, rfl, Kp.refl _ _⟩, ?_⟩
  rintro m l w1 ⟨a, ha0, ha, rfl, rfl, hk1⟩
  rw [s9_p15_Fe]
  unfold s9_p14
  try simp only [e_fd, e_nck, e_pkt, e_pkf, e_gdtt, e_gdtf, e_gdft, e_gdff, e_ift, e_iff, e_not, e_ln, e_lnT, e_cp, e_cvi, e_ex20, e_ex21, e_ex30, e_ex31, e_ex32, e_add, e_sub, e_mul, e_quo, e_rem, e_and, e_or, e_xor, e_shl, e_shr, e_eql, e_neq, e_lss, e_leq, e_gtr, e_geq, e_beq, e_bne, e_peq1, e_peq2, e_pne1, e_pne2, e_zeq1, e_zeq2, e_zne1, e_zne2, e_feq1, e_fne1, e_feq2, e_fne2, e_seq, e_sne, e_ta1, e_ta2, Nat.zero_add, Nat.add_zero, Bool.not_true, Bool.not_false]
  by_cases a5' : a < 256
  · simp only [a5', decide_true, e_fd, e_nck, e_pkt, e_pkf, e_gdtt, e_gdtf, e_gdft, e_gdff, e_ift, e_iff, e_not, e_ln, e_lnT, e_cp, e_cvi, e_ex20, e_ex21, e_ex30, e_ex31, e_ex32, e_add, e_sub, e_mul, e_quo, e_rem, e_and, e_or, e_xor, e_shl, e_shr, e_eql, e_neq, e_lss, e_leq, e_gtr, e_geq, e_beq, e_bne, e_peq1, e_peq2, e_pne1, e_pne2, e_zeq1, e_zeq2, e_zne1, e_zne2, e_feq1, e_fne1, e_feq2, e_fne2, e_seq, e_sne, e_ta1, e_ta2, Nat.zero_add, Nat.add_zero, Bool.not_true, Bool.not_false]
    unfold s9_p13
    try simp only [e_fd, e_nck, e_pkt, e_pkf, e_gdtt, e_gdtf, e_gdft, e_gdff, e_ift, e_iff, e_not, e_ln, e_lnT, e_cp, e_cvi, e_ex20, e_ex21, e_ex30, e_ex31, e_ex32, e_add, e_sub, e_mul, e_quo, e_rem, e_and, e_or, e_xor, e_shl, e_shr, e_eql, e_neq, e_lss, e_leq, e_gtr, e_geq, e_beq, e_bne, e_peq1, e_peq2, e_pne1, e_pne2, e_zeq1, e_zeq2, e_zne1, e_zne2, e_feq1, e_fne1, e_feq2, e_fne2, e_seq, e_sne, e_ta1, e_ta2, Nat.zero_add, Nat.add_zero, Bool.not_true, Bool.not_false]
    rw [wrapu8, show a % 256 = a by omega]
    refine bsq_r (l := [a].map U8) rfl fun w2 r2 hk2 hz2 => ?_
    refine holds16_ok (xs := [a]) (bs_new (xs := [a]) (cap := 1) (junk := []) (by simp; omega) (by rw [List.append_nil]; exact r2) (by simp) (by decide)) (by simp) fun w3 hk3 => ?_
    try simp only [e_fd, e_nck, e_pkt, e_pkf, e_gdtt, e_gdtf, e_gdft, e_gdff, e_ift, e_iff, e_not, e_ln, e_lnT, e_cp, e_cvi, e_ex20, e_ex21, e_ex30, e_ex31, e_ex32, e_add, e_sub, e_mul, e_quo, e_rem, e_and, e_or, e_xor, e_shl, e_shr, e_eql, e_neq, e_lss, e_leq, e_gtr, e_geq, e_beq, e_bne, e_peq1, e_peq2, e_pne1, e_pne2, e_zeq1, e_zeq2, e_zne1, e_zne2, e_feq1, e_fne1, e_feq2, e_fne2, e_seq, e_sne, e_ta1, e_ta2, Nat.zero_add, Nat.add_zero, Bool.not_true, Bool.not_false]
    have hk13 := (hk1.trans hk2).trans hk3
    unfold s9_p12
    refine ⟨fun m l w' => ∃ b : Int, 0 ≤ b ∧ b ≤ 256 ∧ m = (256 - b).toNat ∧ l = [T, I a, I b] ∧ Kp (fun _ => False) w0 w', 256, ⟨0, by omega, by omega, by decide, rfl, hk13⟩, ?_⟩
    rintro m l w4 ⟨b, hb0, hb, rfl, rfl, hk4⟩
    rw [s9_p12_Fe]
    unfold s9_p11
    try simp only [e_fd, e_nck, e_pkt, e_pkf, e_gdtt, e_gdtf, e_gdft, e_gdff, e_ift, e_iff, e_not, e_ln, e_lnT, e_cp, e_cvi, e_ex20, e_ex21, e_ex30, e_ex31, e_ex32, e_add, e_sub, e_mul, e_quo, e_rem, e_and, e_or, e_xor, e_shl, e_shr, e_eql, e_neq, e_lss, e_leq, e_gtr, e_geq, e_beq, e_bne, e_peq1, e_peq2, e_pne1, e_pne2, e_zeq1, e_zeq2, e_zne1, e_zne2, e_feq1, e_fne1, e_feq2, e_fne2, e_seq, e_sne, e_ta1, e_ta2, Nat.zero_add, Nat.add_zero, Bool.not_true, Bool.not_false]
    by_cases b5' : b < 256
    · simp only [b5', decide_true, e_fd, e_nck, e_pkt, e_pkf, e_gdtt, e_gdtf, e_gdft, e_gdff, e_ift, e_iff, e_not, e_ln, e_lnT, e_cp, e_cvi, e_ex20, e_ex21, e_ex30, e_ex31, e_ex32, e_add, e_sub, e_mul, e_quo, e_rem, e_and, e_or, e_xor, e_shl, e_shr, e_eql, e_neq, e_lss, e_leq, e_gtr, e_geq, e_beq, e_bne, e_peq1, e_peq2, e_pne1, e_pne2, e_zeq1, e_zeq2, e_zne1, e_zne2, e_feq1, e_fne1, e_feq2, e_fne2, e_seq, e_sne, e_ta1, e_ta2, Nat.zero_add, Nat.add_zero, Bool.not_true, Bool.not_false]
      unfold s9_p10
      try simp only [e_fd, e_nck, e_pkt, e_pkf, e_gdtt, e_gdtf, e_gdft, e_gdff, e_ift, e_iff, e_not, e_ln, e_lnT, e_cp, e_cvi, e_ex20, e_ex21, e_ex30, e_ex31, e_ex32, e_add, e_sub, e_mul, e_quo, e_rem, e_and, e_or, e_xor, e_shl, e_shr, e_eql, e_neq, e_lss, e_leq, e_gtr, e_geq, e_beq, e_bne, e_peq1, e_peq2, e_pne1, e_pne2, e_zeq1, e_zeq2, e_zne1, e_zne2, e_feq1, e_fne1, e_feq2, e_fne2, e_seq, e_sne, e_ta1, e_ta2, Nat.zero_add, Nat.add_zero, Bool.not_true, Bool.not_false]
      rw [wrapu8, wrapu8, show a % 256 = a by omega, show b % 256 = b by omega]
      refine bsq_r (l := [a, b].map U8) rfl fun w5 r5 hk5 hz5 => ?_
      refine holds16_ok (xs := [a, b]) (bs_new (xs := [a, b]) (cap := 2) (junk := []) (by simp; omega) (by rw [List.append_nil]; exact r5) (by simp) (by decide)) (by simp) fun w6 hk6 => ?_
      try simp only [e_fd, e_nck, e_pkt, e_pkf, e_gdtt, e_gdtf, e_gdft, e_gdff, e_ift, e_iff, e_not, e_ln, e_lnT, e_cp, e_cvi, e_ex20, e_ex21, e_ex30, e_ex31, e_ex32, e_add, e_sub, e_mul, e_quo, e_rem, e_and, e_or, e_xor, e_shl, e_shr, e_eql, e_neq, e_lss, e_leq, e_gtr, e_geq, e_beq, e_bne, e_peq1, e_peq2, e_pne1, e_pne2, e_zeq1, e_zeq2, e_zne1, e_zne2, e_feq1, e_fne1, e_feq2, e_fne2, e_seq, e_sne, e_ta1, e_ta2, Nat.zero_add, Nat.add_zero, Bool.not_true, Bool.not_false]
      have hk46 := (hk4.trans hk5).trans hk6
      refine (ht.kp' hk46).ln ?_
      unfold s9_p9
      refine ⟨fun m l w' => ∃ i : Nat, i ≤ 4 ∧ m = 4 - i ∧ l = [T, I a, I b, T, I tails.length, I i] ∧ Kp (fun _ => False) w0 w', 4, ⟨0, by omega, by omega, rfl, hk46⟩, ?_⟩
      rintro m l w7 ⟨i, hi, rfl, rfl, hk7⟩
      rw [s9_p9_Fe]
      unfold s9_p8
      try simp only [e_fd, e_nck, e_pkt, e_pkf, e_gdtt, e_gdtf, e_gdft, e_gdff, e_ift, e_iff, e_not, e_ln, e_lnT, e_cp, e_cvi, e_ex20, e_ex21, e_ex30, e_ex31, e_ex32, e_add, e_sub, e_mul, e_quo, e_rem, e_and, e_or, e_xor, e_shl, e_shr, e_eql, e_neq, e_lss, e_leq, e_gtr, e_geq, e_beq, e_bne, e_peq1, e_peq2, e_pne1, e_pne2, e_zeq1, e_zeq2, e_zne1, e_zne2, e_feq1, e_fne1, e_feq2, e_fne2, e_seq, e_sne, e_ta1, e_ta2, Nat.zero_add, Nat.add_zero, Bool.not_true, Bool.not_false]
      have hlen : tails.length = 4 := rfl
      by_cases i4 : i < tails.length
      · have i4' : (i : Int) < (tails.length : Int) := by omega
        simp only [i4', decide_true, e_fd, e_nck, e_pkt, e_pkf, e_gdtt, e_gdtf, e_gdft, e_gdff, e_ift, e_iff, e_not, e_ln, e_lnT, e_cp, e_cvi, e_ex20, e_ex21, e_ex30, e_ex31, e_ex32, e_add, e_sub, e_mul, e_quo, e_rem, e_and, e_or, e_xor, e_shl, e_shr, e_eql, e_neq, e_lss, e_leq, e_gtr, e_geq, e_beq, e_bne, e_peq1, e_peq2, e_pne1, e_pne2, e_zeq1, e_zeq2, e_zne1, e_zne2, e_feq1, e_fne1, e_feq2, e_fne2, e_seq, e_sne, e_ta1, e_ta2, Nat.zero_add, Nat.add_zero, Bool.not_true, Bool.not_false]
        unfold s9_p7
        refine (ht.kp' hk7).ix i4 fun bb q hld => hld _ ?_
        have hbi := hby _ (List.getElem_mem i4)
        generalize tails[i] = x at *
        try simp only [e_fd, e_nck, e_pkt, e_pkf, e_gdtt, e_gdtf, e_gdft, e_gdff, e_ift, e_iff, e_not, e_ln, e_lnT, e_cp, e_cvi, e_ex20, e_ex21, e_ex30, e_ex31, e_ex32, e_add, e_sub, e_mul, e_quo, e_rem, e_and, e_or, e_xor, e_shl, e_shr, e_eql, e_neq, e_lss, e_leq, e_gtr, e_geq, e_beq, e_bne, e_peq1, e_peq2, e_pne1, e_pne2, e_zeq1, e_zeq2, e_zne1, e_zne2, e_feq1, e_fne1, e_feq2, e_fne2, e_seq, e_sne, e_ta1, e_ta2, Nat.zero_add, Nat.add_zero, Bool.not_true, Bool.not_false]
        rw [wrapu8, wrapu8, show a % 256 = a by omega, show b % 256 = b by omega]
        refine bsq_r (l := [a, b, x].map U8) rfl fun w8 r8 hk8 hz8 => ?_
        refine holds16_ok (xs := [a, b, x]) (bs_new (xs := [a, b, x]) (cap := 3) (junk := []) (by simp; omega) (by rw [List.append_nil]; exact r8) (by simp) (by decide)) (by simp) fun w9 hk9 => ?_
        try simp only [e_fd, e_nck, e_pkt, e_pkf, e_gdtt, e_gdtf, e_gdft, e_gdff, e_ift, e_iff, e_not, e_ln, e_lnT, e_cp, e_cvi, e_ex20, e_ex21, e_ex30, e_ex31, e_ex32, e_add, e_sub, e_mul, e_quo, e_rem, e_and, e_or, e_xor, e_shl, e_shr, e_eql, e_neq, e_lss, e_leq, e_gtr, e_geq, e_beq, e_bne, e_peq1, e_peq2, e_pne1, e_pne2, e_zeq1, e_zeq2, e_zne1, e_zne2, e_feq1, e_fne1, e_feq2, e_fne2, e_seq, e_sne, e_ta1, e_ta2, Nat.zero_add, Nat.add_zero, Bool.not_true, Bool.not_false]
        have hk79 := (hk7.trans hk8).trans hk9
        refine (ht.kp' hk79).ln ?_
        unfold s9_p6
        refine ⟨fun m l w' => ∃ j : Nat, j ≤ 4 ∧ m = 4 - j ∧ l = [T, I a, I b, U8 x, T, I tails.length, I i, T, I tails.length, I j] ∧ Kp (fun _ => False) w0 w', 4, ⟨0, by omega, by omega, rfl, hk79⟩, ?_⟩
        rintro m l w10 ⟨j, hj, rfl, rfl, hk10⟩
        rw [s9_p6_Fe]
        unfold s9_p5
        try simp only [e_fd, e_nck, e_pkt, e_pkf, e_gdtt, e_gdtf, e_gdft, e_gdff, e_ift, e_iff, e_not, e_ln, e_lnT, e_cp, e_cvi, e_ex20, e_ex21, e_ex30, e_ex31, e_ex32, e_add, e_sub, e_mul, e_quo, e_rem, e_and, e_or, e_xor, e_shl, e_shr, e_eql, e_neq, e_lss, e_leq, e_gtr, e_geq, e_beq, e_bne, e_peq1, e_peq2, e_pne1, e_pne2, e_zeq1, e_zeq2, e_zne1, e_zne2, e_feq1, e_fne1, e_feq2, e_fne2, e_seq, e_sne, e_ta1, e_ta2, Nat.zero_add, Nat.add_zero, Bool.not_true, Bool.not_false]
        by_cases j4 : j < tails.length
        · have j4' : (j : Int) < (tails.length : Int) := by omega
          simp only [j4', decide_true, e_fd, e_nck, e_pkt, e_pkf, e_gdtt, e_gdtf, e_gdft, e_gdff, e_ift, e_iff, e_not, e_ln, e_lnT, e_cp, e_cvi, e_ex20, e_ex21, e_ex30, e_ex31, e_ex32, e_add, e_sub, e_mul, e_quo, e_rem, e_and, e_or, e_xor, e_shl, e_shr, e_eql, e_neq, e_lss, e_leq, e_gtr, e_geq, e_beq, e_bne, e_peq1, e_peq2, e_pne1, e_pne2, e_zeq1, e_zeq2, e_zne1, e_zne2, e_feq1, e_fne1, e_feq2, e_fne2, e_seq, e_sne, e_ta1, e_ta2, Nat.zero_add, Nat.add_zero, Bool.not_true, Bool.not_false]
          refine (ht.kp' hk10).ix j4 fun bb q hld => hld _ ?_
          have hbj := hby _ (List.getElem_mem j4)
          generalize tails[j] = y at *
          try simp only [e_fd, e_nck, e_pkt, e_pkf, e_gdtt, e_gdtf, e_gdft, e_gdff, e_ift, e_iff, e_not, e_ln, e_lnT, e_cp, e_cvi, e_ex20, e_ex21, e_ex30, e_ex31, e_ex32, e_add, e_sub, e_mul, e_quo, e_rem, e_and, e_or, e_xor, e_shl, e_shr, e_eql, e_neq, e_lss, e_leq, e_gtr, e_geq, e_beq, e_bne, e_peq1, e_peq2, e_pne1, e_pne2, e_zeq1, e_zeq2, e_zne1, e_zne2, e_feq1, e_fne1, e_feq2, e_fne2, e_seq, e_sne, e_ta1, e_ta2, Nat.zero_add, Nat.add_zero, Bool.not_true, Bool.not_false]
          rw [wrapu8, wrapu8, show a % 256 = a by omega, show b % 256 = b by omega]
          refine bsq_r (l := [a, b, x, y].map U8) rfl fun w11 r11 hk11 hz11 => ?_
          refine holds16_ok (xs := [a, b, x, y]) (bs_new (xs := [a, b, x, y]) (cap := 4) (junk := []) (by simp; omega) (by rw [List.append_nil]; exact r11) (by simp) (by decide)) (by simp) fun w12 hk12 => ?_
          try simp only [e_fd, e_nck, e_pkt, e_pkf, e_gdtt, e_gdtf, e_gdft, e_gdff, e_ift, e_iff, e_not, e_ln, e_lnT, e_cp, e_cvi, e_ex20, e_ex21, e_ex30, e_ex31, e_ex32, e_add, e_sub, e_mul, e_quo, e_rem, e_and, e_or, e_xor, e_shl, e_shr, e_eql, e_neq, e_lss, e_leq, e_gtr, e_geq, e_beq, e_bne, e_peq1, e_peq2, e_pne1, e_pne2, e_zeq1, e_zeq2, e_zne1, e_zne2, e_feq1, e_fne1, e_feq2, e_fne2, e_seq, e_sne, e_ta1, e_ta2, Nat.zero_add, Nat.add_zero, Bool.not_true, Bool.not_false]
          rw [wrap64_id (by omega) (by omega)]
          exact ⟨4 - (j + 1), by omega, j + 1, by omega, rfl, by simp, (hk10.trans hk11).trans hk12⟩
        · have j4' : ¬ (j : Int) < (tails.length : Int) := by omega
          simp only [j4', decide_false, e_fd, e_nck, e_pkt, e_pkf, e_gdtt, e_gdtf, e_gdft, e_gdff, e_ift, e_iff, e_not, e_ln, e_lnT, e_cp, e_cvi, e_ex20, e_ex21, e_ex30, e_ex31, e_ex32, e_add, e_sub, e_mul, e_quo, e_rem, e_and, e_or, e_xor, e_shl, e_shr, e_eql, e_neq, e_lss, e_leq, e_gtr, e_geq, e_beq, e_bne, e_peq1, e_peq2, e_pne1, e_pne2, e_zeq1, e_zeq2, e_zne1, e_zne2, e_feq1, e_fne1, e_feq2, e_fne2, e_seq, e_sne, e_ta1, e_ta2, Nat.zero_add, Nat.add_zero, Bool.not_true, Bool.not_false]
          unfold s9_p4
          try simp only [e_fd, e_nck, e_pkt, e_pkf, e_gdtt, e_gdtf, e_gdft, e_gdff, e_ift, e_iff, e_not, e_ln, e_lnT, e_cp, e_cvi, e_ex20, e_ex21, e_ex30, e_ex31, e_ex32, e_add, e_sub, e_mul, e_quo, e_rem, e_and, e_or, e_xor, e_shl, e_shr, e_eql, e_neq, e_lss, e_leq, e_gtr, e_geq, e_beq, e_bne, e_peq1, e_peq2, e_pne1, e_pne2, e_zeq1, e_zeq2, e_zne1, e_zne2, e_feq1, e_fne1, e_feq2, e_fne2, e_seq, e_sne, e_ta1, e_ta2, Nat.zero_add, Nat.add_zero, Bool.not_true, Bool.not_false]
          rw [wrap64_id (by omega) (by omega)]
          exact ⟨4 - (i + 1), by omega, i + 1, by omega, rfl, by simp, hk10⟩
      · have i4' : ¬ (i : Int) < (tails.length : Int) := by omega
        simp only [i4', decide_false, e_fd, e_nck, e_pkt, e_pkf, e_gdtt, e_gdtf, e_gdft, e_gdff, e_ift, e_iff, e_not, e_ln, e_lnT, e_cp, e_cvi, e_ex20, e_ex21, e_ex30, e_ex31, e_ex32, e_add, e_sub, e_mul, e_quo, e_rem, e_and, e_or, e_xor, e_shl, e_shr, e_eql, e_neq, e_lss, e_leq, e_gtr, e_geq, e_beq, e_bne, e_peq1, e_peq2, e_pne1, e_pne2, e_zeq1, e_zeq2, e_zne1, e_zne2, e_feq1, e_fne1, e_feq2, e_fne2, e_seq, e_sne, e_ta1, e_ta2, Nat.zero_add, Nat.add_zero, Bool.not_true, Bool.not_false]
        unfold s9_p3
        try simp only [e_fd, e_nck, e_pkt, e_pkf, e_gdtt, e_gdtf, e_gdft, e_gdff, e_ift, e_iff, e_not, e_ln, e_lnT, e_cp, e_cvi, e_ex20, e_ex21, e_ex30, e_ex31, e_ex32, e_add, e_sub, e_mul, e_quo, e_rem, e_and, e_or, e_xor, e_shl, e_shr, e_eql, e_neq, e_lss, e_leq, e_gtr, e_geq, e_beq, e_bne, e_peq1, e_peq2, e_pne1, e_pne2, e_zeq1, e_zeq2, e_zne1, e_zne2, e_feq1, e_fne1, e_feq2, e_fne2, e_seq, e_sne, e_ta1, e_ta2, Nat.zero_add, Nat.add_zero, Bool.not_true, Bool.not_false]
        rw [wrap64_id (by omega) (by omega)]
        exact ⟨(256 - (b + 1)).toNat, by omega, b + 1, by omega, by omega, rfl, rfl, hk7⟩
    · simp only [b5', decide_false, e_fd, e_nck, e_pkt, e_pkf, e_gdtt, e_gdtf, e_gdft, e_gdff, e_ift, e_iff, e_not, e_ln, e_lnT, e_cp, e_cvi, e_ex20, e_ex21, e_ex30, e_ex31, e_ex32, e_add, e_sub, e_mul, e_quo, e_rem, e_and, e_or, e_xor, e_shl, e_shr, e_eql, e_neq, e_lss, e_leq, e_gtr, e_geq, e_beq, e_bne, e_peq1, e_peq2, e_pne1, e_pne2, e_zeq1, e_zeq2, e_zne1, e_zne2, e_feq1, e_fne1, e_feq2, e_fne2, e_seq, e_sne, e_ta1, e_ta2, Nat.zero_add, Nat.add_zero, Bool.not_true, Bool.not_false]
      unfold s9_p2
      try simp only [e_fd, e_nck, e_pkt, e_pkf, e_gdtt, e_gdtf, e_gdft, e_gdff, e_ift, e_iff, e_not, e_ln, e_lnT, e_cp, e_cvi, e_ex20, e_ex21, e_ex30, e_ex31, e_ex32, e_add, e_sub, e_mul, e_quo, e_rem, e_and, e_or, e_xor, e_shl, e_shr, e_eql, e_neq, e_lss, e_leq, e_gtr, e_geq, e_beq, e_bne, e_peq1, e_peq2, e_pne1, e_pne2, e_zeq1, e_zeq2, e_zne1, e_zne2, e_feq1, e_fne1, e_feq2, e_fne2, e_seq, e_sne, e_ta1, e_ta2, Nat.zero_add, Nat.add_zero, Bool.not_true, Bool.not_false]
      rw [wrap64_id (by omega) (by omega)]
      exact ⟨(256 - (a + 1)).toNat, by omega, a + 1, by omega, by omega, rfl, rfl, hk4⟩
  · simp only [a5', decide_false, e_fd, e_nck, e_pkt, e_pkf, e_gdtt, e_gdtf, e_gdft, e_gdff, e_ift, e_iff, e_not, e_ln, e_lnT, e_cp, e_cvi, e_ex20, e_ex21, e_ex30, e_ex31, e_ex32, e_add, e_sub, e_mul, e_quo, e_rem, e_and, e_or, e_xor, e_shl, e_shr, e_eql, e_neq, e_lss, e_leq, e_gtr, e_geq, e_beq, e_bne, e_peq1, e_peq2, e_pne1, e_pne2, e_zeq1, e_zeq2, e_zne1, e_zne2, e_feq1, e_fne1, e_feq2, e_fne2, e_seq, e_sne, e_ta1, e_ta2, Nat.zero_add, Nat.add_zero, Bool.not_true, Bool.not_false]
    unfold s9_p1
    exact hK w1 (hk0.trans hk1)

theorem law9_ok {w : World} {K : Value → World → Prop} (hK : ∀ w', Kp (fun _ => False) w w' → K (.bool true) w') : cl Try.prog 9 #[] K w := by
  apply c9
  unfold s9_p24 s9_p23
  refine ⟨fun m l w' => ∃ c : Int, 0 ≤ c ∧ c ≤ 2097152 ∧ m = (2097152 - c).toNat ∧ l = [I c] ∧ Kp (fun _ => False) w w', 2097152, ⟨0, by omega, by omega, by decide, rfl, Kp.refl _ _⟩, ?_⟩
  rintro m l w1 ⟨c, hc0, hc, rfl, rfl, hk1⟩
  rw [s9_p23_Fe]
  unfold s9_p22
  try simp only [e_fd, e_nck, e_pkt, e_pkf, e_gdtt, e_gdtf, e_gdft, e_gdff, e_ift, e_iff, e_not, e_ln, e_lnT, e_cp, e_cvi, e_ex20, e_ex21, e_ex30, e_ex31, e_ex32, e_add, e_sub, e_mul, e_quo, e_rem, e_and, e_or, e_xor, e_shl, e_shr, e_eql, e_neq, e_lss, e_leq, e_gtr, e_geq, e_beq, e_bne, e_peq1, e_peq2, e_pne1, e_pne2, e_zeq1, e_zeq2, e_zne1, e_zne2, e_feq1, e_fne1, e_feq2, e_fne2, e_seq, e_sne, e_ta1, e_ta2, Nat.zero_add, Nat.add_zero, Bool.not_true, Bool.not_false]
  by_cases hle' : c ≤ 2097151
  · simp only [hle', decide_true, e_fd, e_nck, e_pkt, e_pkf, e_gdtt, e_gdtf, e_gdft, e_gdff, e_ift, e_iff, e_not, e_ln, e_lnT, e_cp, e_cvi, e_ex20, e_ex21, e_ex30, e_ex31, e_ex32, e_add, e_sub, e_mul, e_quo, e_rem, e_and, e_or, e_xor, e_shl, e_shr, e_eql, e_neq, e_lss, e_leq, e_gtr, e_geq, e_beq, e_bne, e_peq1, e_peq2, e_pne1, e_pne2, e_zeq1, e_zeq2, e_zne1, e_zne2, e_feq1, e_fne1, e_feq2, e_fne2, e_seq, e_sne, e_ta1, e_ta2, Nat.zero_add, Nat.add_zero, Bool.not_true, Bool.not_false]
    unfold s9_p21
    refine spell8_ok (by omega) (by omega) fun w2 v2 hb2 hk2 => ?_
    have hl2 := (sp8_len c).2
    refine utf16_ok hb2 (by omega) (fun w3 hk3 hd => ?_) (fun w3 t3 r ob3 hd hs3 ho3 hk3 => ?_)
    · simp only [e_fd, e_nck, e_pkt, e_pkf, e_gdtt, e_gdtf, e_gdft, e_gdff, e_ift, e_iff, e_not, e_ln, e_lnT, e_cp, e_cvi, e_ex20, e_ex21, e_ex30, e_ex31, e_ex32, e_add, e_sub, e_mul, e_quo, e_rem, e_and, e_or, e_xor, e_shl, e_shr, e_eql, e_neq, e_lss, e_leq, e_gtr, e_geq, e_beq, e_bne, e_peq1, e_peq2, e_pne1, e_pne2, e_zeq1, e_zeq2, e_zne1, e_zne2, e_feq1, e_fne1, e_feq2, e_fne2, e_seq, e_sne, e_ta1, e_ta2, Nat.zero_add, Nat.add_zero, Bool.not_true, Bool.not_false]
      refine isSc_ok ?_
      have hn : ¬ isSc c := by
        intro q
        rw [D_sc q] at hd; cases hd
      rw [decide_eq_false hn]
      unfold illV
      try simp only [e_fd, e_nck, e_pkt, e_pkf, e_gdtt, e_gdtf, e_gdft, e_gdff, e_ift, e_iff, e_not, e_ln, e_lnT, e_cp, e_cvi, e_ex20, e_ex21, e_ex30, e_ex31, e_ex32, e_add, e_sub, e_mul, e_quo, e_rem, e_and, e_or, e_xor, e_shl, e_shr, e_eql, e_neq, e_lss, e_leq, e_gtr, e_geq, e_beq, e_bne, e_peq1, e_peq2, e_pne1, e_pne2, e_zeq1, e_zeq2, e_zne1, e_zne2, e_feq1, e_fne1, e_feq2, e_fne2, e_seq, e_sne, e_ta1, e_ta2, Nat.zero_add, Nat.add_zero, Bool.not_true, Bool.not_false]
      unfold s9_p17
      try simp only [e_fd, e_nck, e_pkt, e_pkf, e_gdtt, e_gdtf, e_gdft, e_gdff, e_ift, e_iff, e_not, e_ln, e_lnT, e_cp, e_cvi, e_ex20, e_ex21, e_ex30, e_ex31, e_ex32, e_add, e_sub, e_mul, e_quo, e_rem, e_and, e_or, e_xor, e_shl, e_shr, e_eql, e_neq, e_lss, e_leq, e_gtr, e_geq, e_beq, e_bne, e_peq1, e_peq2, e_pne1, e_pne2, e_zeq1, e_zeq2, e_zne1, e_zne2, e_feq1, e_fne1, e_feq2, e_fne2, e_seq, e_sne, e_ta1, e_ta2, Nat.zero_add, Nat.add_zero, Bool.not_true, Bool.not_false]
      rw [wrap64_id (by omega) (by omega)]
      exact ⟨(2097152 - (c + 1)).toNat, by omega, c + 1, by omega, by omega, rfl, rfl, (hk1.trans hk2).trans hk3⟩
    · simp only [e_fd, e_nck, e_pkt, e_pkf, e_gdtt, e_gdtf, e_gdft, e_gdff, e_ift, e_iff, e_not, e_ln, e_lnT, e_cp, e_cvi, e_ex20, e_ex21, e_ex30, e_ex31, e_ex32, e_add, e_sub, e_mul, e_quo, e_rem, e_and, e_or, e_xor, e_shl, e_shr, e_eql, e_neq, e_lss, e_leq, e_gtr, e_geq, e_beq, e_bne, e_peq1, e_peq2, e_pne1, e_pne2, e_zeq1, e_zeq2, e_zne1, e_zne2, e_feq1, e_fne1, e_feq2, e_fne2, e_seq, e_sne, e_ta1, e_ta2, Nat.zero_add, Nat.add_zero, Bool.not_true, Bool.not_false]
      refine isSc_ok ?_
      have hn : isSc c := by
        by_cases q : isSc c
        · exact q
        · rw [D_nsc q (by omega) (by omega)] at hd; cases hd
      rw [decide_eq_true hn]
      have hr : r = [c] := by rw [D_sc hn] at hd; exact (Option.some.inj hd).symm
      subst hr
      have hu1 : units [c] = sp16 c := by simp [units]
      rw [hu1] at hs3
      try simp only [e_fd, e_nck, e_pkt, e_pkf, e_gdtt, e_gdtf, e_gdft, e_gdff, e_ift, e_iff, e_not, e_ln, e_lnT, e_cp, e_cvi, e_ex20, e_ex21, e_ex30, e_ex31, e_ex32, e_add, e_sub, e_mul, e_quo, e_rem, e_and, e_or, e_xor, e_shl, e_shr, e_eql, e_neq, e_lss, e_leq, e_gtr, e_geq, e_beq, e_bne, e_peq1, e_peq2, e_pne1, e_pne2, e_zeq1, e_zeq2, e_zne1, e_zne2, e_feq1, e_fne1, e_feq2, e_fne2, e_seq, e_sne, e_ta1, e_ta2, Nat.zero_add, Nat.add_zero, Bool.not_true, Bool.not_false]
      refine Sl.empty (f := u1) (k := 1) fun w4 hs4 hk4 hz4 => ?_
      refine spell16_ok (by omega) (by omega) fun w5 t5 b5 hs5 hk5 hb5 => ?_
      refine hs5.ln ?_
      have hk35 := hk4.trans hk5
      have hk05 := ((hk1.trans hk2).trans hk3).trans hk35
      have hB3 : Bs w5 t3 (le2 (sp16 c)) := sl_bs (hs3.kp' hk35) (le2_by (sp16_by hn)) (by rw [le2_len]; have := (sp16_len c).2; omega)
      unfold s9_p20
      have hsl := sp16_len c
      refine ⟨fun m l w' => ∃ (j : Nat) (t4 : Value) (ob : Option Nat), j ≤ (sp16 c).length ∧ m = (sp16 c).length - j ∧ l = [I c, t3, .nilIface, t4, t5, I (sp16 c).length, I j] ∧ Sl u1 1 w' 5 ob t4 (le2 ((sp16 c).take j)) ∧ Nw w3 ob ∧ Kp (fun _ => False) w3 w' ∧ Sl i1 1 w' 3 (some b5) t5 (sp16 c),
        (sp16 c).length, ⟨0, _, some w3.heap.size, by omega, by omega, rfl, ?_, ?_, hk35, hs5⟩, ?_⟩
      · exact hs4.kp' hk5
      · intro b hb; cases hb; exact Nat.le_refl _
      rintro m l w6 ⟨j, t4, ob, hj, rfl, rfl, hs6, ho6, hk6, hu6⟩
      rw [s9_p20_Fe]
      unfold s9_p19
      simp only [e_lss]
      by_cases hjl : j < (sp16 c).length
      · have hjl' : (j : Int) < ((sp16 c).length : Int) := by omega
        simp only [hjl', decide_true, e_ift]
        refine hu6.ix i1_len hjl fun b l hb hr hget hle _ => ?_
        refine ld1_r hr (v := I (sp16 c)[j]) ?_ ?_
        · have := hget 0 (by omega)
          rw [Nat.add_zero] at this
          rw [this]; rfl
        have hub := sp16_by hn (sp16 c)[j] (List.getElem_mem hjl)
        refine unit_app hs6 hub (by rw [List.length_take]; omega) fun w7 t' ob' hs7 hk7 ho7 => ?_
        try simp only [e_fd, e_nck, e_pkt, e_pkf, e_gdtt, e_gdtf, e_gdft, e_gdff, e_ift, e_iff, e_not, e_ln, e_lnT, e_cp, e_cvi, e_ex20, e_ex21, e_ex30, e_ex31, e_ex32, e_add, e_sub, e_mul, e_quo, e_rem, e_and, e_or, e_xor, e_shl, e_shr, e_eql, e_neq, e_lss, e_leq, e_gtr, e_geq, e_beq, e_bne, e_peq1, e_peq2, e_pne1, e_pne2, e_zeq1, e_zeq2, e_zne1, e_zne2, e_feq1, e_fne1, e_feq2, e_fne2, e_seq, e_sne, e_ta1, e_ta2, Nat.zero_add, Nat.add_zero, Bool.not_true, Bool.not_false]
        rw [wrap64_id (by omega) (by omega)]
        refine ⟨(sp16 c).length - (j + 1), by omega, j + 1, t', ob', by omega, rfl, by simp, ?_, ho6.step hk6 ho7, ho6.kp hk6 hk7, ?_⟩
        · rw [List.take_succ_eq_append_getElem hjl]; exact hs7
        · refine hu6.kp hk7 fun b hb q => ?_
          cases hb
          obtain ⟨l5, r5⟩ := hs6.row q
          obtain ⟨l4, r4⟩ := hu6.row rfl
          exact row_ne r5 r4 (by decide) rfl
      · have hjl' : ¬ (j : Int) < ((sp16 c).length : Int) := by omega
        simp only [hjl', decide_false, e_fd, e_nck, e_pkt, e_pkf, e_gdtt, e_gdtf, e_gdft, e_gdff, e_ift, e_iff, e_not, e_ln, e_lnT, e_cp, e_cvi, e_ex20, e_ex21, e_ex30, e_ex31, e_ex32, e_add, e_sub, e_mul, e_quo, e_rem, e_and, e_or, e_xor, e_shl, e_shr, e_eql, e_neq, e_lss, e_leq, e_gtr, e_geq, e_beq, e_bne, e_peq1, e_peq2, e_pne1, e_pne2, e_zeq1, e_zeq2, e_zne1, e_zne2, e_feq1, e_fne1, e_feq2, e_fne2, e_seq, e_sne, e_ta1, e_ta2, Nat.zero_add, Nat.add_zero, Bool.not_true, Bool.not_false]
        unfold s9_p18
        try simp only [e_fd, e_nck, e_pkt, e_pkf, e_gdtt, e_gdtf, e_gdft, e_gdff, e_ift, e_iff, e_not, e_ln, e_lnT, e_cp, e_cvi, e_ex20, e_ex21, e_ex30, e_ex31, e_ex32, e_add, e_sub, e_mul, e_quo, e_rem, e_and, e_or, e_xor, e_shl, e_shr, e_eql, e_neq, e_lss, e_leq, e_gtr, e_geq, e_beq, e_bne, e_peq1, e_peq2, e_pne1, e_pne2, e_zeq1, e_zeq2, e_zne1, e_zne2, e_feq1, e_fne1, e_feq2, e_fne2, e_seq, e_sne, e_ta1, e_ta2, Nat.zero_add, Nat.add_zero, Bool.not_true, Bool.not_false]
        rw [show (sp16 c).take j = sp16 c from List.take_of_length_le (by omega)] at hs6
        have hB6 : Bs w6 t4 (le2 (sp16 c)) := sl_bs hs6 (le2_by (sp16_by hn)) (by rw [le2_len]; omega)
        have hB3' : Bs w6 t3 (le2 (sp16 c)) := sl_bs (hs3.kp' hk6) (le2_by (sp16_by hn)) (by rw [le2_len]; omega)
        refine same_ok hB3' hB6 fun w7 hk7 => ?_
        rw [decide_eq_true rfl]
        try simp only [e_fd, e_nck, e_pkt, e_pkf, e_gdtt, e_gdtf, e_gdft, e_gdff, e_ift, e_iff, e_not, e_ln, e_lnT, e_cp, e_cvi, e_ex20, e_ex21, e_ex30, e_ex31, e_ex32, e_add, e_sub, e_mul, e_quo, e_rem, e_and, e_or, e_xor, e_shl, e_shr, e_eql, e_neq, e_lss, e_leq, e_gtr, e_geq, e_beq, e_bne, e_peq1, e_peq2, e_pne1, e_pne2, e_zeq1, e_zeq2, e_zne1, e_zne2, e_feq1, e_fne1, e_feq2, e_fne2, e_seq, e_sne, e_ta1, e_ta2, Nat.zero_add, Nat.add_zero, Bool.not_true, Bool.not_false]
        unfold s9_p17
        try simp only [e_fd, e_nck, e_pkt, e_pkf, e_gdtt, e_gdtf, e_gdft, e_gdff, e_ift, e_iff, e_not, e_ln, e_lnT, e_cp, e_cvi, e_ex20, e_ex21, e_ex30, e_ex31, e_ex32, e_add, e_sub, e_mul, e_quo, e_rem, e_and, e_or, e_xor, e_shl, e_shr, e_eql, e_neq, e_lss, e_leq, e_gtr, e_geq, e_beq, e_bne, e_peq1, e_peq2, e_pne1, e_pne2, e_zeq1, e_zeq2, e_zne1, e_zne2, e_feq1, e_fne1, e_feq2, e_fne2, e_seq, e_sne, e_ta1, e_ta2, Nat.zero_add, Nat.add_zero, Bool.not_true, Bool.not_false]
        rw [wrap64_id (by omega) (by omega)]
        exact ⟨(2097152 - (c + 1)).toNat, by omega, c + 1, by omega, by omega, rfl, rfl, (((hk1.trans hk2).trans hk3).trans hk6).trans hk7⟩
  · simp only [hle', decide_false, e_fd, e_nck, e_pkt, e_pkf, e_gdtt, e_gdtf, e_gdft, e_gdff, e_ift, e_iff, e_not, e_ln, e_lnT, e_cp, e_cvi, e_ex20, e_ex21, e_ex30, e_ex31, e_ex32, e_add, e_sub, e_mul, e_quo, e_rem, e_and, e_or, e_xor, e_shl, e_shr, e_eql, e_neq, e_lss, e_leq, e_gtr, e_geq, e_beq, e_bne, e_peq1, e_peq2, e_pne1, e_pne2, e_zeq1, e_zeq2, e_zne1, e_zne2, e_feq1, e_fne1, e_feq2, e_fne2, e_seq, e_sne, e_ta1, e_ta2, Nat.zero_add, Nat.add_zero, Bool.not_true, Bool.not_false]
    exact s9_short fun w2 hk2 => hK w2 (hk1.trans hk2)
theorem law9_walk (w : World) : Calls Try.prog 9 #[] w fun e w' => e = .returned (.bool true) ∧ Below w.heap.size w w' := by
  have h : cl Try.prog 9 #[] (fun v w' => v = .bool true ∧ Below w.heap.size w w') w := law9_ok fun w' hw => ⟨rfl, hw.below'⟩
  exact h.mono fun e w' ⟨v, he, hv, hb⟩ => ⟨by rw [he, hv], hb⟩
end Go.Proofs.Qxb6500898a
