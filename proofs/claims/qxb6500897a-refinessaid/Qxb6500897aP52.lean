import Derived.Test.Qxb6500897aP51
namespace Go.Proofs.Qxb6500897a
open Go.Sh Go.RowKit
set_option linter.unusedVariables false
set_option linter.unusedSimpArgs false

section
variable {w w' : World} {m ab : Nat} {now : Int} {L : List Ent} {ob : Option Nat} {lv : Value} {K : Value → World → Prop}

theorem mroom_ok {attr s cls r : Int} (h : ModAt w m ab now L ob lv)
    (hr : chkP now attr s cls 1 0 = 0 → 0 ≤ r ∧ r ≤ 12 ∧ (0 < r → mFits now L attr s cls r = 0) ∧ ∀ n, r < n → mFits now L attr s cls n ≠ 0) (hr0 : chkP now attr s cls 1 0 ≠ 0 → r = 0)
    (hK : ∀ w', Kp (fun _ => False) w w' → K (.tuple #[I r, I (chkP now attr s cls 1 0)]) w') : cl Try.prog 56 #[ptr m, I attr, I s, I cls] K w := by
  apply c56
  unfold s56_p4
  refine args_ok h ?_
  simp only [e_fd, e_nck, e_pkt, e_pkf, e_gdtt, e_gdtf, e_gdft, e_gdff, e_ift, e_iff, e_not, e_ln, e_lnT, e_cp, e_cvi, e_ex20, e_ex21, e_ex30, e_ex31, e_ex32, e_add, e_sub, e_mul, e_quo, e_rem, e_and, e_or, e_xor, e_shl, e_shr, e_eql, e_neq, e_lss, e_leq, e_gtr, e_geq, e_beq, e_bne, e_peq1, e_peq2, e_pne1, e_pne2, e_zeq1, e_zeq2, e_zne1, e_zne2, e_feq1, e_fne1, e_feq2, e_fne2, e_seq, e_sne, e_ta1, e_ta2, Nat.zero_add, Nat.add_zero, Bool.not_true, Bool.not_false]
  by_cases ha0 : argsP attr cls 1 = 0
  · have e : (argsP attr cls 1 != 0) = false := by simpa using ha0
    simp only [e, e_fd, e_nck, e_pkt, e_pkf, e_gdtt, e_gdtf, e_gdft, e_gdff, e_ift, e_iff, e_not, e_ln, e_lnT, e_cp, e_cvi, e_ex20, e_ex21, e_ex30, e_ex31, e_ex32, e_add, e_sub, e_mul, e_quo, e_rem, e_and, e_or, e_xor, e_shl, e_shr, e_eql, e_neq, e_lss, e_leq, e_gtr, e_geq, e_beq, e_bne, e_peq1, e_peq2, e_pne1, e_pne2, e_zeq1, e_zeq2, e_zne1, e_zne2, e_feq1, e_fne1, e_feq2, e_fne2, e_seq, e_sne, e_ta1, e_ta2, Nat.zero_add, Nat.add_zero, Bool.not_true, Bool.not_false]
    have hk := argsP_ok ha0
    refine open_ok h fun w1 hk1 => ?_
    have h1 := h.kp hk1
    simp only [e_fd, e_nck, e_pkt, e_pkf, e_gdtt, e_gdtf, e_gdft, e_gdff, e_ift, e_iff, e_not, e_ln, e_lnT, e_cp, e_cvi, e_ex20, e_ex21, e_ex30, e_ex31, e_ex32, e_add, e_sub, e_mul, e_quo, e_rem, e_and, e_or, e_xor, e_shl, e_shr, e_eql, e_neq, e_lss, e_leq, e_gtr, e_geq, e_beq, e_bne, e_peq1, e_peq2, e_pne1, e_pne2, e_zeq1, e_zeq2, e_zne1, e_zne2, e_feq1, e_fne1, e_feq2, e_fne2, e_seq, e_sne, e_ta1, e_ta2, Nat.zero_add, Nat.add_zero, Bool.not_true, Bool.not_false]
    by_cases hop : now ≤ s ∧ s < now + 6
    · rw [decide_eq_true hop]
      simp only [Bool.not_true, e_fd, e_nck, e_pkt, e_pkf, e_gdtt, e_gdtf, e_gdft, e_gdff, e_ift, e_iff, e_not, e_ln, e_lnT, e_cp, e_cvi, e_ex20, e_ex21, e_ex30, e_ex31, e_ex32, e_add, e_sub, e_mul, e_quo, e_rem, e_and, e_or, e_xor, e_shl, e_shr, e_eql, e_neq, e_lss, e_leq, e_gtr, e_geq, e_beq, e_bne, e_peq1, e_peq2, e_pne1, e_pne2, e_zeq1, e_zeq2, e_zne1, e_zne2, e_feq1, e_fne1, e_feq2, e_fne2, e_seq, e_sne, e_ta1, e_ta2, Nat.zero_add, Nat.add_zero, Bool.not_true, Bool.not_false]
      have hck : chkP now attr s cls 1 0 = 0 := chkP_iff.2 ⟨hk.1, hk.2.1, hk.2.2.1, hk.2.2.2.1, by omega, hop.1, hop.2⟩
      obtain ⟨r0, r1, r2, r3⟩ := hr hck
      rw [hck] at hK
      obtain ⟨a, ea⟩ : ∃ a : Nat, attr = (a : Int) := ⟨attr.toNat, by omega⟩
      have ha : a < 4 := by omega
      have hb := pa_bd a
      -- the room is not above the capacity
      have hcap : r ≤ (pa a).cap := by
        by_cases hp : 0 < r
        · have hf := r2 hp
          unfold mFits at hf
          split at hf
          · unfold fitM at hf
            have et : attr.toNat = a := by omega
            rw [et] at hf
            split at hf
            · rename_i hall
              have := all_range.1 hall s (by omega) (by have hdw : (pa a).dwell = dw a := rfl; omega)
              have := (h.inv.ii a s).1
              omega
            · omega
          · rename_i hne
            exact absurd hf hne
        · omega
      subst ea
      unfold ptr
      simp only [e_fd, e_nck, e_pkt, e_pkf, e_gdtt, e_gdtf, e_gdft, e_gdff, e_ift, e_iff, e_not, e_ln, e_lnT, e_cp, e_cvi, e_ex20, e_ex21, e_ex30, e_ex31, e_ex32, e_add, e_sub, e_mul, e_quo, e_rem, e_and, e_or, e_xor, e_shl, e_shr, e_eql, e_neq, e_lss, e_leq, e_gtr, e_geq, e_beq, e_bne, e_peq1, e_peq2, e_pne1, e_pne2, e_zeq1, e_zeq2, e_zne1, e_zne2, e_feq1, e_fne1, e_feq2, e_fne2, e_seq, e_sne, e_ta1, e_ta2, Nat.zero_add, Nat.add_zero, Bool.not_true, Bool.not_false]
      refine ld1_r h1.top rfl ?_
      refine ixs_r ha ?_
      simp only [e_fd, e_nck, e_pkt, e_pkf, e_gdtt, e_gdtf, e_gdft, e_gdff, e_ift, e_iff, e_not, e_ln, e_lnT, e_cp, e_cvi, e_ex20, e_ex21, e_ex30, e_ex31, e_ex32, e_add, e_sub, e_mul, e_quo, e_rem, e_and, e_or, e_xor, e_shl, e_shr, e_eql, e_neq, e_lss, e_leq, e_gtr, e_geq, e_beq, e_bne, e_peq1, e_peq2, e_pne1, e_pne2, e_zeq1, e_zeq2, e_zne1, e_zne2, e_feq1, e_fne1, e_feq2, e_fne2, e_seq, e_sne, e_ta1, e_ta2, Nat.zero_add, Nat.add_zero, Bool.not_true, Bool.not_false]
      refine ld1_r h1.atts (att_cell (j := 0) (v := I (pa a).cap) ha (by omega) rfl) ?_
      refine ⟨fun q l w' => ∃ n : Int, r ≤ n ∧ 0 ≤ n ∧ n ≤ 12 ∧ q = n.toNat ∧ Kp (fun _ => False) w w' ∧ l = [ptr m, I a, I s, I cls, I n],
        ((pa a).cap).toNat, ⟨(pa a).cap, hcap, by omega, by omega, rfl, hk1, rfl⟩, ?_⟩
      rintro q l w2 ⟨n, hn, hn0, hn1, hq, hk2, rfl⟩
      rw [s56_p3_Fe]
      unfold s56_p2
      simp only [e_fd, e_nck, e_pkt, e_pkf, e_gdtt, e_gdtf, e_gdft, e_gdff, e_ift, e_iff, e_not, e_ln, e_lnT, e_cp, e_cvi, e_ex20, e_ex21, e_ex30, e_ex31, e_ex32, e_add, e_sub, e_mul, e_quo, e_rem, e_and, e_or, e_xor, e_shl, e_shr, e_eql, e_neq, e_lss, e_leq, e_gtr, e_geq, e_beq, e_bne, e_peq1, e_peq2, e_pne1, e_pne2, e_zeq1, e_zeq2, e_zne1, e_zne2, e_feq1, e_fne1, e_feq2, e_fne2, e_seq, e_sne, e_ta1, e_ta2, Nat.zero_add, Nat.add_zero, Bool.not_true, Bool.not_false]
      by_cases hn1 : 1 ≤ n
      · simp only [hn1, decide_true, e_fd, e_nck, e_pkt, e_pkf, e_gdtt, e_gdtf, e_gdft, e_gdff, e_ift, e_iff, e_not, e_ln, e_lnT, e_cp, e_cvi, e_ex20, e_ex21, e_ex30, e_ex31, e_ex32, e_add, e_sub, e_mul, e_quo, e_rem, e_and, e_or, e_xor, e_shl, e_shr, e_eql, e_neq, e_lss, e_leq, e_gtr, e_geq, e_beq, e_bne, e_peq1, e_peq2, e_pne1, e_pne2, e_zeq1, e_zeq2, e_zne1, e_zne2, e_feq1, e_fne1, e_feq2, e_fne2, e_seq, e_sne, e_ta1, e_ta2, Nat.zero_add, Nat.add_zero, Bool.not_true, Bool.not_false]
        refine mfits_ok (h.kp hk2) fun w3 hk3 => ?_
        simp only [e_fd, e_nck, e_pkt, e_pkf, e_gdtt, e_gdtf, e_gdft, e_gdff, e_ift, e_iff, e_not, e_ln, e_lnT, e_cp, e_cvi, e_ex20, e_ex21, e_ex30, e_ex31, e_ex32, e_add, e_sub, e_mul, e_quo, e_rem, e_and, e_or, e_xor, e_shl, e_shr, e_eql, e_neq, e_lss, e_leq, e_gtr, e_geq, e_beq, e_bne, e_peq1, e_peq2, e_pne1, e_pne2, e_zeq1, e_zeq2, e_zne1, e_zne2, e_feq1, e_fne1, e_feq2, e_fne2, e_seq, e_sne, e_ta1, e_ta2, Nat.zero_add, Nat.add_zero, Bool.not_true, Bool.not_false]
        by_cases hf : mFits now L a s cls n = 0
        · have e : (mFits now L a s cls n == 0) = true := by simpa using hf
          simp only [e, e_fd, e_nck, e_pkt, e_pkf, e_gdtt, e_gdtf, e_gdft, e_gdff, e_ift, e_iff, e_not, e_ln, e_lnT, e_cp, e_cvi, e_ex20, e_ex21, e_ex30, e_ex31, e_ex32, e_add, e_sub, e_mul, e_quo, e_rem, e_and, e_or, e_xor, e_shl, e_shr, e_eql, e_neq, e_lss, e_leq, e_gtr, e_geq, e_beq, e_bne, e_peq1, e_peq2, e_pne1, e_pne2, e_zeq1, e_zeq2, e_zne1, e_zne2, e_feq1, e_fne1, e_feq2, e_fne2, e_seq, e_sne, e_ta1, e_ta2, Nat.zero_add, Nat.add_zero, Bool.not_true, Bool.not_false]
          have : n = r := by
            rcases Int.lt_or_le r n with q | q
            · exact absurd hf (r3 n q)
            · omega
          subst this
          exact hK w3 (hk2.trans hk3)
        · have e : (mFits now L a s cls n == 0) = false := by simpa using hf
          simp only [e, e_fd, e_nck, e_pkt, e_pkf, e_gdtt, e_gdtf, e_gdft, e_gdff, e_ift, e_iff, e_not, e_ln, e_lnT, e_cp, e_cvi, e_ex20, e_ex21, e_ex30, e_ex31, e_ex32, e_add, e_sub, e_mul, e_quo, e_rem, e_and, e_or, e_xor, e_shl, e_shr, e_eql, e_neq, e_lss, e_leq, e_gtr, e_geq, e_beq, e_bne, e_peq1, e_peq2, e_pne1, e_pne2, e_zeq1, e_zeq2, e_zne1, e_zne2, e_feq1, e_fne1, e_feq2, e_fne2, e_seq, e_sne, e_ta1, e_ta2, Nat.zero_add, Nat.add_zero, Bool.not_true, Bool.not_false]
          rw [wrap64_id (by omega) (by omega)]
          have hne : n ≠ r := fun e => hf (by rw [e]; exact r2 (by omega))
          exact ⟨(n - 1).toNat, by omega, n - 1, by omega, by omega, by omega, rfl, hk2.trans hk3, by simp [ptr]⟩
      · simp only [hn1, decide_false, e_fd, e_nck, e_pkt, e_pkf, e_gdtt, e_gdtf, e_gdft, e_gdff, e_ift, e_iff, e_not, e_ln, e_lnT, e_cp, e_cvi, e_ex20, e_ex21, e_ex30, e_ex31, e_ex32, e_add, e_sub, e_mul, e_quo, e_rem, e_and, e_or, e_xor, e_shl, e_shr, e_eql, e_neq, e_lss, e_leq, e_gtr, e_geq, e_beq, e_bne, e_peq1, e_peq2, e_pne1, e_pne2, e_zeq1, e_zeq2, e_zne1, e_zne2, e_feq1, e_fne1, e_feq2, e_fne2, e_seq, e_sne, e_ta1, e_ta2, Nat.zero_add, Nat.add_zero, Bool.not_true, Bool.not_false]
        unfold s56_p1
        have : r = 0 := by omega
        subst this
        exact hK w2 hk2
    · rw [decide_eq_false hop]
      simp only [Bool.not_false, e_fd, e_nck, e_pkt, e_pkf, e_gdtt, e_gdtf, e_gdft, e_gdff, e_ift, e_iff, e_not, e_ln, e_lnT, e_cp, e_cvi, e_ex20, e_ex21, e_ex30, e_ex31, e_ex32, e_add, e_sub, e_mul, e_quo, e_rem, e_and, e_or, e_xor, e_shl, e_shr, e_eql, e_neq, e_lss, e_leq, e_gtr, e_geq, e_beq, e_bne, e_peq1, e_peq2, e_pne1, e_pne2, e_zeq1, e_zeq2, e_zne1, e_zne2, e_feq1, e_fne1, e_feq2, e_fne2, e_seq, e_sne, e_ta1, e_ta2, Nat.zero_add, Nat.add_zero, Bool.not_true, Bool.not_false]
      have hck : chkP now attr s cls 1 0 = 4 := by rw [chkP_args, if_pos ha0, if_pos (by simp; omega)]
      rw [hck, hr0 (by rw [hck]; decide)] at hK
      exact hK w1 hk1
  · have e : (argsP attr cls 1 != 0) = true := by simpa using ha0
    simp only [e, e_fd, e_nck, e_pkt, e_pkf, e_gdtt, e_gdtf, e_gdft, e_gdff, e_ift, e_iff, e_not, e_ln, e_lnT, e_cp, e_cvi, e_ex20, e_ex21, e_ex30, e_ex31, e_ex32, e_add, e_sub, e_mul, e_quo, e_rem, e_and, e_or, e_xor, e_shl, e_shr, e_eql, e_neq, e_lss, e_leq, e_gtr, e_geq, e_beq, e_bne, e_peq1, e_peq2, e_pne1, e_pne2, e_zeq1, e_zeq2, e_zne1, e_zne2, e_feq1, e_fne1, e_feq2, e_fne2, e_seq, e_sne, e_ta1, e_ta2, Nat.zero_add, Nat.add_zero, Bool.not_true, Bool.not_false]
    have hck : chkP now attr s cls 1 0 = argsP attr cls 1 := by rw [chkP_args, if_neg ha0]
    rw [hck, hr0 (by rw [hck]; exact ha0)] at hK
    exact hK w (Kp.refl _ _)

theorem mff_ok {attr frm to cls n : Int} (h : ModAt w m ab now L ob lv)
    (hK : ∀ w', Kp (fun _ => False) w w' → K (if argsP attr cls n = 0 then (match ffS (ffP now L attr frm to cls n) 6 now with | some x => .tuple #[I x, I 0] | none => .tuple #[I 0, I 10]) else .tuple #[I 0, I (argsP attr cls n)]) w') :
    cl Try.prog 57 #[ptr m, I attr, I frm, I to, I cls, I n] K w := by
  have n0 := h.inv.n0
  have n1 := h.inv.n1
  apply c57
  unfold s57_p5
  refine args_ok h ?_
  simp only [e_fd, e_nck, e_pkt, e_pkf, e_gdtt, e_gdtf, e_gdft, e_gdff, e_ift, e_iff, e_not, e_ln, e_lnT, e_cp, e_cvi, e_ex20, e_ex21, e_ex30, e_ex31, e_ex32, e_add, e_sub, e_mul, e_quo, e_rem, e_and, e_or, e_xor, e_shl, e_shr, e_eql, e_neq, e_lss, e_leq, e_gtr, e_geq, e_beq, e_bne, e_peq1, e_peq2, e_pne1, e_pne2, e_zeq1, e_zeq2, e_zne1, e_zne2, e_feq1, e_fne1, e_feq2, e_fne2, e_seq, e_sne, e_ta1, e_ta2, Nat.zero_add, Nat.add_zero, Bool.not_true, Bool.not_false]
  by_cases ha0 : argsP attr cls n = 0
  · have e : (argsP attr cls n != 0) = false := by simpa using ha0
    rw [if_pos ha0] at hK
    unfold ptr
    simp only [e, e_fd, e_nck, e_pkt, e_pkf, e_gdtt, e_gdtf, e_gdft, e_gdff, e_ift, e_iff, e_not, e_ln, e_lnT, e_cp, e_cvi, e_ex20, e_ex21, e_ex30, e_ex31, e_ex32, e_add, e_sub, e_mul, e_quo, e_rem, e_and, e_or, e_xor, e_shl, e_shr, e_eql, e_neq, e_lss, e_leq, e_gtr, e_geq, e_beq, e_bne, e_peq1, e_peq2, e_pne1, e_pne2, e_zeq1, e_zeq2, e_zne1, e_zne2, e_feq1, e_fne1, e_feq2, e_fne2, e_seq, e_sne, e_ta1, e_ta2, Nat.zero_add, Nat.add_zero, Bool.not_true, Bool.not_false]
    refine ld1_r h.top rfl ?_
    refine ⟨fun q l w' => ∃ s : Int, now ≤ s ∧ s ≤ now + 6 ∧ q = (now + 6 - s).toNat ∧ Kp (fun _ => False) w w' ∧ l = [ptr m, I attr, I frm, I to, I cls, I n, I s] ∧ ffS (ffP now L attr frm to cls n) 6 now = ffS (ffP now L attr frm to cls n) (now + 6 - s).toNat s,
      6, ⟨now, by omega, by omega, by omega, Kp.refl _ _, rfl, by rw [show (now + 6 - now).toNat = 6 by omega]⟩, ?_⟩
    rintro q l w1 ⟨s, s0, s1, hq, hk1, rfl, hR⟩
    rw [s57_p4_Fe]
    unfold s57_p3 s57_p3_d ptr
    have hkd : Kp (fun _ => False) w (drw w1) := hk1.trans kp_drw
    have hd := h.kp hkd
    simp only [e_fd, e_nck, e_pkt, e_pkf, e_gdtt, e_gdtf, e_gdft, e_gdff, e_ift, e_iff, e_not, e_ln, e_lnT, e_cp, e_cvi, e_ex20, e_ex21, e_ex30, e_ex31, e_ex32, e_add, e_sub, e_mul, e_quo, e_rem, e_and, e_or, e_xor, e_shl, e_shr, e_eql, e_neq, e_lss, e_leq, e_gtr, e_geq, e_beq, e_bne, e_peq1, e_peq2, e_pne1, e_pne2, e_zeq1, e_zeq2, e_zne1, e_zne2, e_feq1, e_fne1, e_feq2, e_fne2, e_seq, e_sne, e_ta1, e_ta2, Nat.zero_add, Nat.add_zero, Bool.not_true, Bool.not_false]
    refine ld1_r hd.top rfl ?_
    refine ld1_r hd.top rfl ?_
    simp only [e_fd, e_nck, e_pkt, e_pkf, e_gdtt, e_gdtf, e_gdft, e_gdff, e_ift, e_iff, e_not, e_ln, e_lnT, e_cp, e_cvi, e_ex20, e_ex21, e_ex30, e_ex31, e_ex32, e_add, e_sub, e_mul, e_quo, e_rem, e_and, e_or, e_xor, e_shl, e_shr, e_eql, e_neq, e_lss, e_leq, e_gtr, e_geq, e_beq, e_bne, e_peq1, e_peq2, e_pne1, e_pne2, e_zeq1, e_zeq2, e_zne1, e_zne2, e_feq1, e_fne1, e_feq2, e_fne2, e_seq, e_sne, e_ta1, e_ta2, Nat.zero_add, Nat.add_zero, Bool.not_true, Bool.not_false]
    rw [wrap64_id (by omega) (by omega)]
    unfold s57_p2
    by_cases hlt : s < now + 6
    · simp only [hlt, decide_true, e_fd, e_nck, e_pkt, e_pkf, e_gdtt, e_gdtf, e_gdft, e_gdff, e_ift, e_iff, e_not, e_ln, e_lnT, e_cp, e_cvi, e_ex20, e_ex21, e_ex30, e_ex31, e_ex32, e_add, e_sub, e_mul, e_quo, e_rem, e_and, e_or, e_xor, e_shl, e_shr, e_eql, e_neq, e_lss, e_leq, e_gtr, e_geq, e_beq, e_bne, e_peq1, e_peq2, e_pne1, e_pne2, e_zeq1, e_zeq2, e_zne1, e_zne2, e_feq1, e_fne1, e_feq2, e_fne2, e_seq, e_sne, e_ta1, e_ta2, Nat.zero_add, Nat.add_zero, Bool.not_true, Bool.not_false]
      have ek : (now + 6 - s).toNat = (now + 6 - (s + 1)).toNat + 1 := by omega
      replace hR := hR.trans (show _ = if ffP now L attr frm to cls n s = true then some s else ffS (ffP now L attr frm to cls n) (now + 6 - (s + 1)).toNat (s + 1) by rw [ek]; rfl)
      have next : ∀ w2, Kp (fun _ => False) w w2 → ffP now L attr frm to cls n s = false → boI .add (I s) (.int .i64 1) (fun t41 w' => (fun l' w' => ∃ m', m' < q ∧ ∃ s : Int, now ≤ s ∧ s ≤ now + 6 ∧ m' = (now + 6 - s).toNat ∧ Kp (fun _ => False) w w' ∧ l' = [.pointer (some ⟨m, 0, none⟩), I attr, I frm, I to, I cls, I n, I s] ∧
          ffS (ffP now L attr frm to cls n) 6 now = ffS (ffP now L attr frm to cls n) (now + 6 - s).toNat s) [.pointer (some ⟨m, 0, none⟩), I attr, I frm, I to, I cls, I n, t41] w') w2 := by
        intro w2 hk2 hno
        simp only [e_fd, e_nck, e_pkt, e_pkf, e_gdtt, e_gdtf, e_gdft, e_gdff, e_ift, e_iff, e_not, e_ln, e_lnT, e_cp, e_cvi, e_ex20, e_ex21, e_ex30, e_ex31, e_ex32, e_add, e_sub, e_mul, e_quo, e_rem, e_and, e_or, e_xor, e_shl, e_shr, e_eql, e_neq, e_lss, e_leq, e_gtr, e_geq, e_beq, e_bne, e_peq1, e_peq2, e_pne1, e_pne2, e_zeq1, e_zeq2, e_zne1, e_zne2, e_feq1, e_fne1, e_feq2, e_fne2, e_seq, e_sne, e_ta1, e_ta2, Nat.zero_add, Nat.add_zero, Bool.not_true, Bool.not_false]
        rw [wrap64_id (by omega) (by omega)]
        rw [hno] at hR
        exact ⟨(now + 6 - (s + 1)).toNat, by omega, s + 1, by omega, by omega, rfl, hk2, rfl, hR⟩
      simp only [e_fd, e_nck, e_pkt, e_pkf, e_gdtt, e_gdtf, e_gdft, e_gdff, e_ift, e_iff, e_not, e_ln, e_lnT, e_cp, e_cvi, e_ex20, e_ex21, e_ex30, e_ex31, e_ex32, e_add, e_sub, e_mul, e_quo, e_rem, e_and, e_or, e_xor, e_shl, e_shr, e_eql, e_neq, e_lss, e_leq, e_gtr, e_geq, e_beq, e_bne, e_peq1, e_peq2, e_pne1, e_pne2, e_zeq1, e_zeq2, e_zne1, e_zne2, e_feq1, e_fne1, e_feq2, e_fne2, e_seq, e_sne, e_ta1, e_ta2, Nat.zero_add, Nat.add_zero, Bool.not_true, Bool.not_false] at next
      by_cases h1 : frm ≤ s
      · simp only [h1, decide_true, e_fd, e_nck, e_pkt, e_pkf, e_gdtt, e_gdtf, e_gdft, e_gdff, e_ift, e_iff, e_not, e_ln, e_lnT, e_cp, e_cvi, e_ex20, e_ex21, e_ex30, e_ex31, e_ex32, e_add, e_sub, e_mul, e_quo, e_rem, e_and, e_or, e_xor, e_shl, e_shr, e_eql, e_neq, e_lss, e_leq, e_gtr, e_geq, e_beq, e_bne, e_peq1, e_peq2, e_pne1, e_pne2, e_zeq1, e_zeq2, e_zne1, e_zne2, e_feq1, e_fne1, e_feq2, e_fne2, e_seq, e_sne, e_ta1, e_ta2, Nat.zero_add, Nat.add_zero, Bool.not_true, Bool.not_false]
        by_cases h2 : s ≤ to
        · simp only [h2, decide_true, e_fd, e_nck, e_pkt, e_pkf, e_gdtt, e_gdtf, e_gdft, e_gdff, e_ift, e_iff, e_not, e_ln, e_lnT, e_cp, e_cvi, e_ex20, e_ex21, e_ex30, e_ex31, e_ex32, e_add, e_sub, e_mul, e_quo, e_rem, e_and, e_or, e_xor, e_shl, e_shr, e_eql, e_neq, e_lss, e_leq, e_gtr, e_geq, e_beq, e_bne, e_peq1, e_peq2, e_pne1, e_pne2, e_zeq1, e_zeq2, e_zne1, e_zne2, e_feq1, e_fne1, e_feq2, e_fne2, e_seq, e_sne, e_ta1, e_ta2, Nat.zero_add, Nat.add_zero, Bool.not_true, Bool.not_false]
          refine mfits_ok hd fun w2 hk2 => ?_
          simp only [e_fd, e_nck, e_pkt, e_pkf, e_gdtt, e_gdtf, e_gdft, e_gdff, e_ift, e_iff, e_not, e_ln, e_lnT, e_cp, e_cvi, e_ex20, e_ex21, e_ex30, e_ex31, e_ex32, e_add, e_sub, e_mul, e_quo, e_rem, e_and, e_or, e_xor, e_shl, e_shr, e_eql, e_neq, e_lss, e_leq, e_gtr, e_geq, e_beq, e_bne, e_peq1, e_peq2, e_pne1, e_pne2, e_zeq1, e_zeq2, e_zne1, e_zne2, e_feq1, e_fne1, e_feq2, e_fne2, e_seq, e_sne, e_ta1, e_ta2, Nat.zero_add, Nat.add_zero, Bool.not_true, Bool.not_false]
          have ep : ffP now L attr frm to cls n s = (mFits now L attr s cls n == 0) := by
            unfold ffP
            rw [decide_eq_true h1, decide_eq_true h2]
            simp only [Bool.and_self, Bool.true_and]
            rw [Bool.eq_iff_iff]; simp
          by_cases hf : mFits now L attr s cls n = 0
          · have e : (mFits now L attr s cls n == 0) = true := by simpa using hf
            rw [e] at ep
            simp only [e, e_fd, e_nck, e_pkt, e_pkf, e_gdtt, e_gdtf, e_gdft, e_gdff, e_ift, e_iff, e_not, e_ln, e_lnT, e_cp, e_cvi, e_ex20, e_ex21, e_ex30, e_ex31, e_ex32, e_add, e_sub, e_mul, e_quo, e_rem, e_and, e_or, e_xor, e_shl, e_shr, e_eql, e_neq, e_lss, e_leq, e_gtr, e_geq, e_beq, e_bne, e_peq1, e_peq2, e_pne1, e_pne2, e_zeq1, e_zeq2, e_zne1, e_zne2, e_feq1, e_fne1, e_feq2, e_fne2, e_seq, e_sne, e_ta1, e_ta2, Nat.zero_add, Nat.add_zero, Bool.not_true, Bool.not_false]
            rw [ep] at hR
            rw [hR] at hK
            exact hK w2 (hkd.trans hk2)
          · have e : (mFits now L attr s cls n == 0) = false := by simpa using hf
            rw [e] at ep
            simp only [e, e_fd, e_nck, e_pkt, e_pkf, e_gdtt, e_gdtf, e_gdft, e_gdff, e_ift, e_iff, e_not, e_ln, e_lnT, e_cp, e_cvi, e_ex20, e_ex21, e_ex30, e_ex31, e_ex32, e_add, e_sub, e_mul, e_quo, e_rem, e_and, e_or, e_xor, e_shl, e_shr, e_eql, e_neq, e_lss, e_leq, e_gtr, e_geq, e_beq, e_bne, e_peq1, e_peq2, e_pne1, e_pne2, e_zeq1, e_zeq2, e_zne1, e_zne2, e_feq1, e_fne1, e_feq2, e_fne2, e_seq, e_sne, e_ta1, e_ta2, Nat.zero_add, Nat.add_zero, Bool.not_true, Bool.not_false]
            exact next w2 (hkd.trans hk2) ep
        · simp only [h2, decide_false, e_fd, e_nck, e_pkt, e_pkf, e_gdtt, e_gdtf, e_gdft, e_gdff, e_ift, e_iff, e_not, e_ln, e_lnT, e_cp, e_cvi, e_ex20, e_ex21, e_ex30, e_ex31, e_ex32, e_add, e_sub, e_mul, e_quo, e_rem, e_and, e_or, e_xor, e_shl, e_shr, e_eql, e_neq, e_lss, e_leq, e_gtr, e_geq, e_beq, e_bne, e_peq1, e_peq2, e_pne1, e_pne2, e_zeq1, e_zeq2, e_zne1, e_zne2, e_feq1, e_fne1, e_feq2, e_fne2, e_seq, e_sne, e_ta1, e_ta2, Nat.zero_add, Nat.add_zero, Bool.not_true, Bool.not_false]
          refine next _ hkd ?_
          unfold ffP
          rw [decide_eq_false h2]; simp
      · simp only [h1, decide_false, e_fd, e_nck, e_pkt, e_pkf, e_gdtt, e_gdtf, e_gdft, e_gdff, e_ift, e_iff, e_not, e_ln, e_lnT, e_cp, e_cvi, e_ex20, e_ex21, e_ex30, e_ex31, e_ex32, e_add, e_sub, e_mul, e_quo, e_rem, e_and, e_or, e_xor, e_shl, e_shr, e_eql, e_neq, e_lss, e_leq, e_gtr, e_geq, e_beq, e_bne, e_peq1, e_peq2, e_pne1, e_pne2, e_zeq1, e_zeq2, e_zne1, e_zne2, e_feq1, e_fne1, e_feq2, e_fne2, e_seq, e_sne, e_ta1, e_ta2, Nat.zero_add, Nat.add_zero, Bool.not_true, Bool.not_false]
        refine next _ hkd ?_
        unfold ffP
        rw [decide_eq_false h1]; simp
    · simp only [hlt, decide_false, e_fd, e_nck, e_pkt, e_pkf, e_gdtt, e_gdtf, e_gdft, e_gdff, e_ift, e_iff, e_not, e_ln, e_lnT, e_cp, e_cvi, e_ex20, e_ex21, e_ex30, e_ex31, e_ex32, e_add, e_sub, e_mul, e_quo, e_rem, e_and, e_or, e_xor, e_shl, e_shr, e_eql, e_neq, e_lss, e_leq, e_gtr, e_geq, e_beq, e_bne, e_peq1, e_peq2, e_pne1, e_pne2, e_zeq1, e_zeq2, e_zne1, e_zne2, e_feq1, e_fne1, e_feq2, e_fne2, e_seq, e_sne, e_ta1, e_ta2, Nat.zero_add, Nat.add_zero, Bool.not_true, Bool.not_false]
      unfold s57_p1
      rw [show (now + 6 - s).toNat = 0 by omega] at hR
      rw [hR] at hK
      exact hK _ hkd
  · have e : (argsP attr cls n != 0) = true := by simpa using ha0
    simp only [e, e_fd, e_nck, e_pkt, e_pkf, e_gdtt, e_gdtf, e_gdft, e_gdff, e_ift, e_iff, e_not, e_ln, e_lnT, e_cp, e_cvi, e_ex20, e_ex21, e_ex30, e_ex31, e_ex32, e_add, e_sub, e_mul, e_quo, e_rem, e_and, e_or, e_xor, e_shl, e_shr, e_eql, e_neq, e_lss, e_leq, e_gtr, e_geq, e_beq, e_bne, e_peq1, e_peq2, e_pne1, e_pne2, e_zeq1, e_zeq2, e_zne1, e_zne2, e_feq1, e_fne1, e_feq2, e_fne2, e_seq, e_sne, e_ta1, e_ta2, Nat.zero_add, Nat.add_zero, Bool.not_true, Bool.not_false]
    rw [if_neg ha0] at hK
    exact hK w (Kp.refl _ _)

theorem mocc_ok {attr s : Int} (h : ModAt w m ab now L ob lv)
    (hK : ∀ w', Kp (fun _ => False) w w' → K (.tuple #[I (if chkP now attr s 0 1 2 = 0 then ins L attr.toNat (dw attr.toNat) s else 0), I (chkP now attr s 0 1 2)]) w') : cl Try.prog 58 #[ptr m, I attr, I s] K w := by
  apply c58
  unfold s58_p1
  refine args_ok h ?_
  simp only [e_fd, e_nck, e_pkt, e_pkf, e_gdtt, e_gdtf, e_gdft, e_gdff, e_ift, e_iff, e_not, e_ln, e_lnT, e_cp, e_cvi, e_ex20, e_ex21, e_ex30, e_ex31, e_ex32, e_add, e_sub, e_mul, e_quo, e_rem, e_and, e_or, e_xor, e_shl, e_shr, e_eql, e_neq, e_lss, e_leq, e_gtr, e_geq, e_beq, e_bne, e_peq1, e_peq2, e_pne1, e_pne2, e_zeq1, e_zeq2, e_zne1, e_zne2, e_feq1, e_fne1, e_feq2, e_fne2, e_seq, e_sne, e_ta1, e_ta2, Nat.zero_add, Nat.add_zero, Bool.not_true, Bool.not_false]
  by_cases ha0 : argsP attr 0 1 = 0
  · have e : (argsP attr 0 1 != 0) = false := by simpa using ha0
    simp only [e, e_fd, e_nck, e_pkt, e_pkf, e_gdtt, e_gdtf, e_gdft, e_gdff, e_ift, e_iff, e_not, e_ln, e_lnT, e_cp, e_cvi, e_ex20, e_ex21, e_ex30, e_ex31, e_ex32, e_add, e_sub, e_mul, e_quo, e_rem, e_and, e_or, e_xor, e_shl, e_shr, e_eql, e_neq, e_lss, e_leq, e_gtr, e_geq, e_beq, e_bne, e_peq1, e_peq2, e_pne1, e_pne2, e_zeq1, e_zeq2, e_zne1, e_zne2, e_feq1, e_fne1, e_feq2, e_fne2, e_seq, e_sne, e_ta1, e_ta2, Nat.zero_add, Nat.add_zero, Bool.not_true, Bool.not_false]
    have hk := argsP_ok ha0
    obtain ⟨a, ea⟩ : ∃ a : Nat, attr = (a : Int) := ⟨attr.toNat, by omega⟩
    subst ea
    have et : ((a : Int)).toNat = a := by omega
    have ha : a < 4 := by omega
    have hb := pa_bd a
    have hdw : (pa a).dwell = dw a := rfl
    have hrl : (rlen a : Int) = 6 + 2 * (dw a - 1) := by unfold rlen; omega
    refine seen_ok h ha fun w1 hk1 => ?_
    simp only [e_fd, e_nck, e_pkt, e_pkf, e_gdtt, e_gdtf, e_gdft, e_gdff, e_ift, e_iff, e_not, e_ln, e_lnT, e_cp, e_cvi, e_ex20, e_ex21, e_ex30, e_ex31, e_ex32, e_add, e_sub, e_mul, e_quo, e_rem, e_and, e_or, e_xor, e_shl, e_shr, e_eql, e_neq, e_lss, e_leq, e_gtr, e_geq, e_beq, e_bne, e_peq1, e_peq2, e_pne1, e_pne2, e_zeq1, e_zeq2, e_zne1, e_zne2, e_feq1, e_fne1, e_feq2, e_fne2, e_seq, e_sne, e_ta1, e_ta2, Nat.zero_add, Nat.add_zero, Bool.not_true, Bool.not_false]
    by_cases hs : seen now a s
    · rw [decide_eq_true hs]
      simp only [Bool.not_true, e_fd, e_nck, e_pkt, e_pkf, e_gdtt, e_gdtf, e_gdft, e_gdff, e_ift, e_iff, e_not, e_ln, e_lnT, e_cp, e_cvi, e_ex20, e_ex21, e_ex30, e_ex31, e_ex32, e_add, e_sub, e_mul, e_quo, e_rem, e_and, e_or, e_xor, e_shl, e_shr, e_eql, e_neq, e_lss, e_leq, e_gtr, e_geq, e_beq, e_bne, e_peq1, e_peq2, e_pne1, e_pne2, e_zeq1, e_zeq2, e_zne1, e_zne2, e_feq1, e_fne1, e_feq2, e_fne2, e_seq, e_sne, e_ta1, e_ta2, Nat.zero_add, Nat.add_zero, Bool.not_true, Bool.not_false]
      unfold seen fst1 at hs
      have hck : chkP now (a : Int) s 0 1 2 = 0 := by
        rw [chkP_args, if_pos ha0, et, if_neg]
        simp; omega
      rw [hck] at hK
      refine inside_ok (h.kp hk1) ha fun w2 hk2 => ?_
      have := hK w2 (hk1.trans hk2)
      rw [if_pos rfl, et] at this
      exact this
    · rw [decide_eq_false hs]
      simp only [Bool.not_false, e_fd, e_nck, e_pkt, e_pkf, e_gdtt, e_gdtf, e_gdft, e_gdff, e_ift, e_iff, e_not, e_ln, e_lnT, e_cp, e_cvi, e_ex20, e_ex21, e_ex30, e_ex31, e_ex32, e_add, e_sub, e_mul, e_quo, e_rem, e_and, e_or, e_xor, e_shl, e_shr, e_eql, e_neq, e_lss, e_leq, e_gtr, e_geq, e_beq, e_bne, e_peq1, e_peq2, e_pne1, e_pne2, e_zeq1, e_zeq2, e_zne1, e_zne2, e_feq1, e_fne1, e_feq2, e_fne2, e_seq, e_sne, e_ta1, e_ta2, Nat.zero_add, Nat.add_zero, Bool.not_true, Bool.not_false]
      unfold seen fst1 at hs
      have hck : chkP now (a : Int) s 0 1 2 = 4 := by
        rw [chkP_args, if_pos ha0, et, if_pos]
        simp; omega
      rw [hck] at hK
      have := hK w1 hk1
      rw [if_neg (by decide)] at this
      exact this
  · have e : (argsP attr 0 1 != 0) = true := by simpa using ha0
    simp only [e, e_fd, e_nck, e_pkt, e_pkf, e_gdtt, e_gdtf, e_gdft, e_gdff, e_ift, e_iff, e_not, e_ln, e_lnT, e_cp, e_cvi, e_ex20, e_ex21, e_ex30, e_ex31, e_ex32, e_add, e_sub, e_mul, e_quo, e_rem, e_and, e_or, e_xor, e_shl, e_shr, e_eql, e_neq, e_lss, e_leq, e_gtr, e_geq, e_beq, e_bne, e_peq1, e_peq2, e_pne1, e_pne2, e_zeq1, e_zeq2, e_zne1, e_zne2, e_feq1, e_fne1, e_feq2, e_fne2, e_seq, e_sne, e_ta1, e_ta2, Nat.zero_add, Nat.add_zero, Bool.not_true, Bool.not_false]
    have hck : chkP now attr s 0 1 2 = argsP attr 0 1 := by rw [chkP_args, if_neg ha0]
    rw [hck] at hK
    have := hK w (Kp.refl _ _)
    rw [if_neg ha0] at this
    exact this

theorem madm_ok {attr s cls : Int} (h : ModAt w m ab now L ob lv)
    (hK : ∀ w', Kp (fun _ => False) w w' → K (.tuple #[I (if chkP now attr s cls 1 2 = 0 then ent L attr.toNat s cls.toNat else 0), I (chkP now attr s cls 1 2)]) w') : cl Try.prog 59 #[ptr m, I attr, I s, I cls] K w := by
  apply c59
  unfold s59_p1
  refine args_ok h ?_
  simp only [e_fd, e_nck, e_pkt, e_pkf, e_gdtt, e_gdtf, e_gdft, e_gdff, e_ift, e_iff, e_not, e_ln, e_lnT, e_cp, e_cvi, e_ex20, e_ex21, e_ex30, e_ex31, e_ex32, e_add, e_sub, e_mul, e_quo, e_rem, e_and, e_or, e_xor, e_shl, e_shr, e_eql, e_neq, e_lss, e_leq, e_gtr, e_geq, e_beq, e_bne, e_peq1, e_peq2, e_pne1, e_pne2, e_zeq1, e_zeq2, e_zne1, e_zne2, e_feq1, e_fne1, e_feq2, e_fne2, e_seq, e_sne, e_ta1, e_ta2, Nat.zero_add, Nat.add_zero, Bool.not_true, Bool.not_false]
  by_cases ha0 : argsP attr cls 1 = 0
  · have e : (argsP attr cls 1 != 0) = false := by simpa using ha0
    simp only [e, e_fd, e_nck, e_pkt, e_pkf, e_gdtt, e_gdtf, e_gdft, e_gdff, e_ift, e_iff, e_not, e_ln, e_lnT, e_cp, e_cvi, e_ex20, e_ex21, e_ex30, e_ex31, e_ex32, e_add, e_sub, e_mul, e_quo, e_rem, e_and, e_or, e_xor, e_shl, e_shr, e_eql, e_neq, e_lss, e_leq, e_gtr, e_geq, e_beq, e_bne, e_peq1, e_peq2, e_pne1, e_pne2, e_zeq1, e_zeq2, e_zne1, e_zne2, e_feq1, e_fne1, e_feq2, e_fne2, e_seq, e_sne, e_ta1, e_ta2, Nat.zero_add, Nat.add_zero, Bool.not_true, Bool.not_false]
    have hk := argsP_ok ha0
    obtain ⟨a, ea⟩ : ∃ a : Nat, attr = (a : Int) := ⟨attr.toNat, by omega⟩
    obtain ⟨c, ec⟩ : ∃ c : Nat, cls = (c : Int) := ⟨cls.toNat, by omega⟩
    subst ea ec
    have et : ((a : Int)).toNat = a := by omega
    have etc : ((c : Int)).toNat = c := by omega
    have ha : a < 4 := by omega
    have hb := pa_bd a
    have hdw : (pa a).dwell = dw a := rfl
    have hrl : (rlen a : Int) = 6 + 2 * (dw a - 1) := by unfold rlen; omega
    refine seen_ok h ha fun w1 hk1 => ?_
    simp only [e_fd, e_nck, e_pkt, e_pkf, e_gdtt, e_gdtf, e_gdft, e_gdff, e_ift, e_iff, e_not, e_ln, e_lnT, e_cp, e_cvi, e_ex20, e_ex21, e_ex30, e_ex31, e_ex32, e_add, e_sub, e_mul, e_quo, e_rem, e_and, e_or, e_xor, e_shl, e_shr, e_eql, e_neq, e_lss, e_leq, e_gtr, e_geq, e_beq, e_bne, e_peq1, e_peq2, e_pne1, e_pne2, e_zeq1, e_zeq2, e_zne1, e_zne2, e_feq1, e_fne1, e_feq2, e_fne2, e_seq, e_sne, e_ta1, e_ta2, Nat.zero_add, Nat.add_zero, Bool.not_true, Bool.not_false]
    by_cases hs : seen now a s
    · rw [decide_eq_true hs]
      simp only [Bool.not_true, e_fd, e_nck, e_pkt, e_pkf, e_gdtt, e_gdtf, e_gdft, e_gdff, e_ift, e_iff, e_not, e_ln, e_lnT, e_cp, e_cvi, e_ex20, e_ex21, e_ex30, e_ex31, e_ex32, e_add, e_sub, e_mul, e_quo, e_rem, e_and, e_or, e_xor, e_shl, e_shr, e_eql, e_neq, e_lss, e_leq, e_gtr, e_geq, e_beq, e_bne, e_peq1, e_peq2, e_pne1, e_pne2, e_zeq1, e_zeq2, e_zne1, e_zne2, e_feq1, e_fne1, e_feq2, e_fne2, e_seq, e_sne, e_ta1, e_ta2, Nat.zero_add, Nat.add_zero, Bool.not_true, Bool.not_false]
      unfold seen fst1 at hs
      have hck : chkP now (a : Int) s (c : Int) 1 2 = 0 := by
        rw [chkP_args, if_pos ha0, et, if_neg]
        simp; omega
      rw [hck] at hK
      refine entered_ok (h.kp hk1) fun w2 hk2 => ?_
      have := hK w2 (hk1.trans hk2)
      rw [if_pos rfl, et, etc] at this
      exact this
    · rw [decide_eq_false hs]
      simp only [Bool.not_false, e_fd, e_nck, e_pkt, e_pkf, e_gdtt, e_gdtf, e_gdft, e_gdff, e_ift, e_iff, e_not, e_ln, e_lnT, e_cp, e_cvi, e_ex20, e_ex21, e_ex30, e_ex31, e_ex32, e_add, e_sub, e_mul, e_quo, e_rem, e_and, e_or, e_xor, e_shl, e_shr, e_eql, e_neq, e_lss, e_leq, e_gtr, e_geq, e_beq, e_bne, e_peq1, e_peq2, e_pne1, e_pne2, e_zeq1, e_zeq2, e_zne1, e_zne2, e_feq1, e_fne1, e_feq2, e_fne2, e_seq, e_sne, e_ta1, e_ta2, Nat.zero_add, Nat.add_zero, Bool.not_true, Bool.not_false]
      unfold seen fst1 at hs
      have hck : chkP now (a : Int) s (c : Int) 1 2 = 4 := by
        rw [chkP_args, if_pos ha0, et, if_pos]
        simp; omega
      rw [hck] at hK
      have := hK w1 hk1
      rw [if_neg (by decide)] at this
      exact this
  · have e : (argsP attr cls 1 != 0) = true := by simpa using ha0
    simp only [e, e_fd, e_nck, e_pkt, e_pkf, e_gdtt, e_gdtf, e_gdft, e_gdff, e_ift, e_iff, e_not, e_ln, e_lnT, e_cp, e_cvi, e_ex20, e_ex21, e_ex30, e_ex31, e_ex32, e_add, e_sub, e_mul, e_quo, e_rem, e_and, e_or, e_xor, e_shl, e_shr, e_eql, e_neq, e_lss, e_leq, e_gtr, e_geq, e_beq, e_bne, e_peq1, e_peq2, e_pne1, e_pne2, e_zeq1, e_zeq2, e_zne1, e_zne2, e_feq1, e_fne1, e_feq2, e_fne2, e_seq, e_sne, e_ta1, e_ta2, Nat.zero_add, Nat.add_zero, Bool.not_true, Bool.not_false]
    have hck : chkP now attr s cls 1 2 = argsP attr cls 1 := by rw [chkP_args, if_neg ha0]
    rw [hck] at hK
    have := hK w (Kp.refl _ _)
    rw [if_neg ha0] at this
    exact this

theorem mnew_ok {ab : Nat} (ha : Row w ab 59 (rows Att.cells parkA)) (hK : ∀ w' m, ModAt w' m ab 0 [] none (.slice none 0 0) → Kp (fun _ => False) w w' → w.heap.size ≤ m → K (ptr m) w') :
    cl Try.prog 15 #[.agg #[I 6, I 90, .slice (some ⟨ab, 0, none⟩) 4 4]] K w := by
  apply c15
  unfold s15_p1
  refine nw_r fun w1 r1 hb1 hz1 => ?_
  replace r1 : Row w1 w.heap.size 30 [I 6, I 90, .slice (some ⟨ab, 0, none⟩) 4 4] := r1
  refine ldn_r r1 (Nat.le_of_ble_eq_true rfl) ?_
  apply bdq_r (l := [I 6, I 90, .slice (some ⟨ab, 0, none⟩) 4 4, I 0, .slice none 0 0]) rfl
  refine nw_r fun w2 r2 hb2 hz2 => ?_
  refine hK w2 w1.heap.size ⟨r2, hb2.row' (hb1.row' ha), ⟨rfl, rfl⟩, ?_, ?_, by simp⟩ (hb1.trans hb2) hb1.size
  · refine ⟨by omega, by omega, by simp, fun a v c hc => ?_, fun a v => ?_⟩
    · have := (pa_bd a).2.2.2.2 c
      show 0 ≤ (0 : Int) ∧ (0 : Int) ≤ _
      omega
    · have := pa_bd a
      show 0 ≤ (0 : Int) ∧ (0 : Int) ≤ _
      omega
  · intro e he; simp at he

/-- one step of the model is one step of the tables -/
theorem playModel_ok {o : Op} {ts : List Tab} (h : ModAt w m ab now L ob lv) (hg : Good now ts L) (ho : o.Wf) (hl : L.length + 1 ≤ 65536)
    (hK : ∀ w' ob' lv', ModM w' m ab (stepP now ts o).now (stepL now L o) ob' lv' → (ob' = ob ∨ ∃ b, ob' = some b ∧ w.heap.size ≤ b) → Kp (fun q => q = m ∨ ob = some q) w w' → K (.tuple #[I (stepP now ts o).code, I (stepP now ts o).val]) w') :
    cl Try.prog 18 #[ptr m, .agg o.cells.toArray] K w := by
  apply c18
  unfold s18_p2
  refine nw_r fun w1 (r1 : Row w1 _ 34 [I o.kind, I o.attr, I o.slot, I o.to, I o.cls, I o.n]) hb1 hz1 => ?_
  have h1 := h.kp hb1
  have hz := hb1.size
  simp only [e_fd, e_nck, e_pkt, e_pkf, e_gdtt, e_gdtf, e_gdft, e_gdff, e_ift, e_iff, e_not, e_ln, e_lnT, e_cp, e_cvi, e_ex20, e_ex21, e_ex30, e_ex31, e_ex32, e_add, e_sub, e_mul, e_quo, e_rem, e_and, e_or, e_xor, e_shl, e_shr, e_eql, e_neq, e_lss, e_leq, e_gtr, e_geq, e_beq, e_bne, e_peq1, e_peq2, e_pne1, e_pne2, e_zeq1, e_zeq2, e_zne1, e_zne2, e_feq1, e_fne1, e_feq2, e_fne2, e_seq, e_sne, e_ta1, e_ta2, Nat.zero_add, Nat.add_zero, Bool.not_true, Bool.not_false]
  refine ld1_r r1 rfl ?_
  simp only [e_fd, e_nck, e_pkt, e_pkf, e_gdtt, e_gdtf, e_gdft, e_gdff, e_ift, e_iff, e_not, e_ln, e_lnT, e_cp, e_cvi, e_ex20, e_ex21, e_ex30, e_ex31, e_ex32, e_add, e_sub, e_mul, e_quo, e_rem, e_and, e_or, e_xor, e_shl, e_shr, e_eql, e_neq, e_lss, e_leq, e_gtr, e_geq, e_beq, e_bne, e_peq1, e_peq2, e_pne1, e_pne2, e_zeq1, e_zeq2, e_zne1, e_zne2, e_feq1, e_fne1, e_feq2, e_fne2, e_seq, e_sne, e_ta1, e_ta2, Nat.zero_add, Nat.add_zero, Bool.not_true, Bool.not_false]
  unfold stepP stepL at hK
  -- a question
  have quiet : ∀ w' code val, Kp (fun _ => False) w1 w' → (∀ w' ob' lv', ModM w' m ab now L ob' lv' → (ob' = ob ∨ ∃ b, ob' = some b ∧ w.heap.size ≤ b) → Kp (fun q => q = m ∨ ob = some q) w w' → K (.tuple #[I code, I val]) w') → s18_p1 K (I code) (I val) w' := by
    intro w' code val hk hq
    unfold s18_p1
    exact hq w' ob lv (h1.kp hk).mm (.inl rfl) (hb1.trans hk).none
  have lift : ∀ {ob' : Option Nat}, (ob' = ob ∨ ∃ b, ob' = some b ∧ w1.heap.size ≤ b) → (ob' = ob ∨ ∃ b, ob' = some b ∧ w.heap.size ≤ b) := by
    intro ob' q
    rcases q with q | ⟨b, q, hb⟩
    · exact .inl q
    · exact .inr ⟨b, q, by omega⟩
  by_cases k0 : o.kind = 0
  · simp only [if_pos k0] at hK
    have e : (o.kind == 0) = true := by simpa using k0
    simp only [e, e_fd, e_nck, e_pkt, e_pkf, e_gdtt, e_gdtf, e_gdft, e_gdff, e_ift, e_iff, e_not, e_ln, e_lnT, e_cp, e_cvi, e_ex20, e_ex21, e_ex30, e_ex31, e_ex32, e_add, e_sub, e_mul, e_quo, e_rem, e_and, e_or, e_xor, e_shl, e_shr, e_eql, e_neq, e_lss, e_leq, e_gtr, e_geq, e_beq, e_bne, e_peq1, e_peq2, e_pne1, e_pne2, e_zeq1, e_zeq2, e_zne1, e_zne2, e_feq1, e_fne1, e_feq2, e_fne2, e_seq, e_sne, e_ta1, e_ta2, Nat.zero_add, Nat.add_zero, Bool.not_true, Bool.not_false]
    refine ld1_r r1 rfl ?_
    refine ld1_r r1 rfl ?_
    refine ld1_r r1 rfl ?_
    refine ld1_r r1 rfl ?_
    refine madmit_ok h1 hl fun w2 ob' lv' hM hob hk2 => ?_
    unfold s18_p1
    have := hK w2 ob' lv' hM (lift hob) (hb1.none.trans hk2)
    rw [hg.fitsC] at this
    exact this
  simp only [if_neg k0] at hK
  have e : (o.kind == 0) = false := by simpa using k0
  simp only [e, e_fd, e_nck, e_pkt, e_pkf, e_gdtt, e_gdtf, e_gdft, e_gdff, e_ift, e_iff, e_not, e_ln, e_lnT, e_cp, e_cvi, e_ex20, e_ex21, e_ex30, e_ex31, e_ex32, e_add, e_sub, e_mul, e_quo, e_rem, e_and, e_or, e_xor, e_shl, e_shr, e_eql, e_neq, e_lss, e_leq, e_gtr, e_geq, e_beq, e_bne, e_peq1, e_peq2, e_pne1, e_pne2, e_zeq1, e_zeq2, e_zne1, e_zne2, e_feq1, e_fne1, e_feq2, e_fne2, e_seq, e_sne, e_ta1, e_ta2, Nat.zero_add, Nat.add_zero, Bool.not_true, Bool.not_false]
  clear e
  by_cases k1 : o.kind = 1
  · simp only [if_pos k1] at hK
    have e : (o.kind == 1) = true := by simpa using k1
    simp only [e, e_fd, e_nck, e_pkt, e_pkf, e_gdtt, e_gdtf, e_gdft, e_gdff, e_ift, e_iff, e_not, e_ln, e_lnT, e_cp, e_cvi, e_ex20, e_ex21, e_ex30, e_ex31, e_ex32, e_add, e_sub, e_mul, e_quo, e_rem, e_and, e_or, e_xor, e_shl, e_shr, e_eql, e_neq, e_lss, e_leq, e_gtr, e_geq, e_beq, e_bne, e_peq1, e_peq2, e_pne1, e_pne2, e_zeq1, e_zeq2, e_zne1, e_zne2, e_feq1, e_fne1, e_feq2, e_fne2, e_seq, e_sne, e_ta1, e_ta2, Nat.zero_add, Nat.add_zero, Bool.not_true, Bool.not_false]
    refine ld1_r r1 rfl ?_
    refine ld1_r r1 rfl ?_
    refine ld1_r r1 rfl ?_
    refine ld1_r r1 rfl ?_
    refine mrelease_ok h1 hl fun w2 ob' lv' hM hob hk2 => ?_
    unfold s18_p1
    have := hK w2 ob' lv' hM (lift hob) (hb1.none.trans hk2)
    rw [hg.relC] at this
    exact this
  simp only [if_neg k1] at hK
  have e : (o.kind == 1) = false := by simpa using k1
  simp only [e, e_fd, e_nck, e_pkt, e_pkf, e_gdtt, e_gdtf, e_gdft, e_gdff, e_ift, e_iff, e_not, e_ln, e_lnT, e_cp, e_cvi, e_ex20, e_ex21, e_ex30, e_ex31, e_ex32, e_add, e_sub, e_mul, e_quo, e_rem, e_and, e_or, e_xor, e_shl, e_shr, e_eql, e_neq, e_lss, e_leq, e_gtr, e_geq, e_beq, e_bne, e_peq1, e_peq2, e_pne1, e_pne2, e_zeq1, e_zeq2, e_zne1, e_zne2, e_feq1, e_fne1, e_feq2, e_fne2, e_seq, e_sne, e_ta1, e_ta2, Nat.zero_add, Nat.add_zero, Bool.not_true, Bool.not_false]
  clear e
  by_cases k2 : o.kind = 2
  · simp only [if_pos k2] at hK
    have e : (o.kind == 2) = true := by simpa using k2
    simp only [e, e_fd, e_nck, e_pkt, e_pkf, e_gdtt, e_gdtf, e_gdft, e_gdff, e_ift, e_iff, e_not, e_ln, e_lnT, e_cp, e_cvi, e_ex20, e_ex21, e_ex30, e_ex31, e_ex32, e_add, e_sub, e_mul, e_quo, e_rem, e_and, e_or, e_xor, e_shl, e_shr, e_eql, e_neq, e_lss, e_leq, e_gtr, e_geq, e_beq, e_bne, e_peq1, e_peq2, e_pne1, e_pne2, e_zeq1, e_zeq2, e_zne1, e_zne2, e_feq1, e_fne1, e_feq2, e_fne2, e_seq, e_sne, e_ta1, e_ta2, Nat.zero_add, Nat.add_zero, Bool.not_true, Bool.not_false]
    refine ld1_r r1 rfl ?_
    refine madvance_ok h1 ho.n fun w2 hM hk2 => ?_
    unfold s18_p1
    exact hK w2 ob lv hM (.inl rfl) (hb1.none.trans hk2)
  simp only [if_neg k2] at hK
  have e : (o.kind == 2) = false := by simpa using k2
  simp only [e, e_fd, e_nck, e_pkt, e_pkf, e_gdtt, e_gdtf, e_gdft, e_gdff, e_ift, e_iff, e_not, e_ln, e_lnT, e_cp, e_cvi, e_ex20, e_ex21, e_ex30, e_ex31, e_ex32, e_add, e_sub, e_mul, e_quo, e_rem, e_and, e_or, e_xor, e_shl, e_shr, e_eql, e_neq, e_lss, e_leq, e_gtr, e_geq, e_beq, e_bne, e_peq1, e_peq2, e_pne1, e_pne2, e_zeq1, e_zeq2, e_zne1, e_zne2, e_feq1, e_fne1, e_feq2, e_fne2, e_seq, e_sne, e_ta1, e_ta2, Nat.zero_add, Nat.add_zero, Bool.not_true, Bool.not_false]
  clear e
  by_cases k3 : o.kind = 3
  · simp only [if_pos k3] at hK
    have e : (o.kind == 3) = true := by simpa using k3
    simp only [e, e_fd, e_nck, e_pkt, e_pkf, e_gdtt, e_gdtf, e_gdft, e_gdff, e_ift, e_iff, e_not, e_ln, e_lnT, e_cp, e_cvi, e_ex20, e_ex21, e_ex30, e_ex31, e_ex32, e_add, e_sub, e_mul, e_quo, e_rem, e_and, e_or, e_xor, e_shl, e_shr, e_eql, e_neq, e_lss, e_leq, e_gtr, e_geq, e_beq, e_bne, e_peq1, e_peq2, e_pne1, e_pne2, e_zeq1, e_zeq2, e_zne1, e_zne2, e_feq1, e_fne1, e_feq2, e_fne2, e_seq, e_sne, e_ta1, e_ta2, Nat.zero_add, Nat.add_zero, Bool.not_true, Bool.not_false]
    refine ld1_r r1 rfl ?_
    refine ld1_r r1 rfl ?_
    refine ld1_r r1 rfl ?_
    refine ld1_r r1 rfl ?_
    rw [hg.fitsC] at hK
    refine mfits_ok h1 fun w2 hk2 => ?_
    exact quiet w2 _ _ hk2 hK
  simp only [if_neg k3] at hK
  have e : (o.kind == 3) = false := by simpa using k3
  simp only [e, e_fd, e_nck, e_pkt, e_pkf, e_gdtt, e_gdtf, e_gdft, e_gdff, e_ift, e_iff, e_not, e_ln, e_lnT, e_cp, e_cvi, e_ex20, e_ex21, e_ex30, e_ex31, e_ex32, e_add, e_sub, e_mul, e_quo, e_rem, e_and, e_or, e_xor, e_shl, e_shr, e_eql, e_neq, e_lss, e_leq, e_gtr, e_geq, e_beq, e_bne, e_peq1, e_peq2, e_pne1, e_pne2, e_zeq1, e_zeq2, e_zne1, e_zne2, e_feq1, e_fne1, e_feq2, e_fne2, e_seq, e_sne, e_ta1, e_ta2, Nat.zero_add, Nat.add_zero, Bool.not_true, Bool.not_false]
  clear e
  by_cases k4 : o.kind = 4
  · simp only [if_pos k4] at hK
    have e : (o.kind == 4) = true := by simpa using k4
    simp only [e, e_fd, e_nck, e_pkt, e_pkf, e_gdtt, e_gdtf, e_gdft, e_gdff, e_ift, e_iff, e_not, e_ln, e_lnT, e_cp, e_cvi, e_ex20, e_ex21, e_ex30, e_ex31, e_ex32, e_add, e_sub, e_mul, e_quo, e_rem, e_and, e_or, e_xor, e_shl, e_shr, e_eql, e_neq, e_lss, e_leq, e_gtr, e_geq, e_beq, e_bne, e_peq1, e_peq2, e_pne1, e_pne2, e_zeq1, e_zeq2, e_zne1, e_zne2, e_feq1, e_fne1, e_feq2, e_fne2, e_seq, e_sne, e_ta1, e_ta2, Nat.zero_add, Nat.add_zero, Bool.not_true, Bool.not_false]
    refine ld1_r r1 rfl ?_
    refine ld1_r r1 rfl ?_
    refine ld1_r r1 rfl ?_
    rw [hg.chk] at hK
    refine mroom_ok (r := if chkP now o.attr o.slot o.cls 1 0 = 0 then roomOf (tabOf ts o.attr) o.slot o.cls.toNat else 0) h1 (fun hc => ?_) (fun hc => by rw [if_neg hc]) fun w2 hk2 => ?_
    · rw [if_pos hc]; exact hg.room hc
    · simp only [e_fd, e_nck, e_pkt, e_pkf, e_gdtt, e_gdtf, e_gdft, e_gdff, e_ift, e_iff, e_not, e_ln, e_lnT, e_cp, e_cvi, e_ex20, e_ex21, e_ex30, e_ex31, e_ex32, e_add, e_sub, e_mul, e_quo, e_rem, e_and, e_or, e_xor, e_shl, e_shr, e_eql, e_neq, e_lss, e_leq, e_gtr, e_geq, e_beq, e_bne, e_peq1, e_peq2, e_pne1, e_pne2, e_zeq1, e_zeq2, e_zne1, e_zne2, e_feq1, e_fne1, e_feq2, e_fne2, e_seq, e_sne, e_ta1, e_ta2, Nat.zero_add, Nat.add_zero, Bool.not_true, Bool.not_false]
      exact quiet w2 _ _ hk2 hK
  simp only [if_neg k4] at hK
  have e : (o.kind == 4) = false := by simpa using k4
  simp only [e, e_fd, e_nck, e_pkt, e_pkf, e_gdtt, e_gdtf, e_gdft, e_gdff, e_ift, e_iff, e_not, e_ln, e_lnT, e_cp, e_cvi, e_ex20, e_ex21, e_ex30, e_ex31, e_ex32, e_add, e_sub, e_mul, e_quo, e_rem, e_and, e_or, e_xor, e_shl, e_shr, e_eql, e_neq, e_lss, e_leq, e_gtr, e_geq, e_beq, e_bne, e_peq1, e_peq2, e_pne1, e_pne2, e_zeq1, e_zeq2, e_zne1, e_zne2, e_feq1, e_fne1, e_feq2, e_fne2, e_seq, e_sne, e_ta1, e_ta2, Nat.zero_add, Nat.add_zero, Bool.not_true, Bool.not_false]
  clear e
  by_cases k5 : o.kind = 5
  · simp only [if_pos k5] at hK
    have e : (o.kind == 5) = true := by simpa using k5
    simp only [e, e_fd, e_nck, e_pkt, e_pkf, e_gdtt, e_gdtf, e_gdft, e_gdff, e_ift, e_iff, e_not, e_ln, e_lnT, e_cp, e_cvi, e_ex20, e_ex21, e_ex30, e_ex31, e_ex32, e_add, e_sub, e_mul, e_quo, e_rem, e_and, e_or, e_xor, e_shl, e_shr, e_eql, e_neq, e_lss, e_leq, e_gtr, e_geq, e_beq, e_bne, e_peq1, e_peq2, e_pne1, e_pne2, e_zeq1, e_zeq2, e_zne1, e_zne2, e_feq1, e_fne1, e_feq2, e_fne2, e_seq, e_sne, e_ta1, e_ta2, Nat.zero_add, Nat.add_zero, Bool.not_true, Bool.not_false]
    refine ld1_r r1 rfl ?_
    refine ld1_r r1 rfl ?_
    refine ld1_r r1 rfl ?_
    refine ld1_r r1 rfl ?_
    refine ld1_r r1 rfl ?_
    refine mff_ok h1 fun w2 hk2 => ?_
    have hn0 := h.inv.n0
    have eck : chkP now o.attr now o.cls o.n 0 = argsP o.attr o.cls o.n := by
      rw [chkP_args]
      by_cases q : argsP o.attr o.cls o.n = 0
      · rw [if_pos q, if_neg (by simp; omega), q]
      · rw [if_neg q]
    by_cases q : argsP o.attr o.cls o.n = 0
    · rw [if_pos q]
      rcases hg.ff (attr := o.attr) (frm := o.slot) (to := o.to) (cls := o.cls) (n := o.n) with ⟨hne, _⟩ | ⟨x, hx, hc, hv⟩ | ⟨hx, hc, hv⟩
      · exact absurd (eck.trans q) hne
      · rw [hx]
        rw [hc, hv] at hK
        simp only [e_fd, e_nck, e_pkt, e_pkf, e_gdtt, e_gdtf, e_gdft, e_gdff, e_ift, e_iff, e_not, e_ln, e_lnT, e_cp, e_cvi, e_ex20, e_ex21, e_ex30, e_ex31, e_ex32, e_add, e_sub, e_mul, e_quo, e_rem, e_and, e_or, e_xor, e_shl, e_shr, e_eql, e_neq, e_lss, e_leq, e_gtr, e_geq, e_beq, e_bne, e_peq1, e_peq2, e_pne1, e_pne2, e_zeq1, e_zeq2, e_zne1, e_zne2, e_feq1, e_fne1, e_feq2, e_fne2, e_seq, e_sne, e_ta1, e_ta2, Nat.zero_add, Nat.add_zero, Bool.not_true, Bool.not_false]
        exact quiet w2 _ _ hk2 hK
      · rw [hx]
        rw [hc, hv] at hK
        simp only [e_fd, e_nck, e_pkt, e_pkf, e_gdtt, e_gdtf, e_gdft, e_gdff, e_ift, e_iff, e_not, e_ln, e_lnT, e_cp, e_cvi, e_ex20, e_ex21, e_ex30, e_ex31, e_ex32, e_add, e_sub, e_mul, e_quo, e_rem, e_and, e_or, e_xor, e_shl, e_shr, e_eql, e_neq, e_lss, e_leq, e_gtr, e_geq, e_beq, e_bne, e_peq1, e_peq2, e_pne1, e_pne2, e_zeq1, e_zeq2, e_zne1, e_zne2, e_feq1, e_fne1, e_feq2, e_fne2, e_seq, e_sne, e_ta1, e_ta2, Nat.zero_add, Nat.add_zero, Bool.not_true, Bool.not_false]
        exact quiet w2 _ _ hk2 hK
    · rw [if_neg q]
      have hc : ffC now ts o.attr o.slot o.to o.cls o.n = argsP o.attr o.cls o.n := by
        unfold ffC; rw [hg.chk, eck, if_neg q]
      have hv : ffVal now ts o.attr o.slot o.to o.cls o.n = 0 := by
        unfold ffVal; rw [hg.chk, eck, if_neg q]
      rw [hc, hv] at hK
      simp only [e_fd, e_nck, e_pkt, e_pkf, e_gdtt, e_gdtf, e_gdft, e_gdff, e_ift, e_iff, e_not, e_ln, e_lnT, e_cp, e_cvi, e_ex20, e_ex21, e_ex30, e_ex31, e_ex32, e_add, e_sub, e_mul, e_quo, e_rem, e_and, e_or, e_xor, e_shl, e_shr, e_eql, e_neq, e_lss, e_leq, e_gtr, e_geq, e_beq, e_bne, e_peq1, e_peq2, e_pne1, e_pne2, e_zeq1, e_zeq2, e_zne1, e_zne2, e_feq1, e_fne1, e_feq2, e_fne2, e_seq, e_sne, e_ta1, e_ta2, Nat.zero_add, Nat.add_zero, Bool.not_true, Bool.not_false]
      exact quiet w2 _ _ hk2 hK
  simp only [if_neg k5] at hK
  have e : (o.kind == 5) = false := by simpa using k5
  simp only [e, e_fd, e_nck, e_pkt, e_pkf, e_gdtt, e_gdtf, e_gdft, e_gdff, e_ift, e_iff, e_not, e_ln, e_lnT, e_cp, e_cvi, e_ex20, e_ex21, e_ex30, e_ex31, e_ex32, e_add, e_sub, e_mul, e_quo, e_rem, e_and, e_or, e_xor, e_shl, e_shr, e_eql, e_neq, e_lss, e_leq, e_gtr, e_geq, e_beq, e_bne, e_peq1, e_peq2, e_pne1, e_pne2, e_zeq1, e_zeq2, e_zne1, e_zne2, e_feq1, e_fne1, e_feq2, e_fne2, e_seq, e_sne, e_ta1, e_ta2, Nat.zero_add, Nat.add_zero, Bool.not_true, Bool.not_false]
  clear e
  by_cases k6 : o.kind = 6
  · simp only [if_pos k6] at hK
    have e : (o.kind == 6) = true := by simpa using k6
    simp only [e, e_fd, e_nck, e_pkt, e_pkf, e_gdtt, e_gdtf, e_gdft, e_gdff, e_ift, e_iff, e_not, e_ln, e_lnT, e_cp, e_cvi, e_ex20, e_ex21, e_ex30, e_ex31, e_ex32, e_add, e_sub, e_mul, e_quo, e_rem, e_and, e_or, e_xor, e_shl, e_shr, e_eql, e_neq, e_lss, e_leq, e_gtr, e_geq, e_beq, e_bne, e_peq1, e_peq2, e_pne1, e_pne2, e_zeq1, e_zeq2, e_zne1, e_zne2, e_feq1, e_fne1, e_feq2, e_fne2, e_seq, e_sne, e_ta1, e_ta2, Nat.zero_add, Nat.add_zero, Bool.not_true, Bool.not_false]
    refine ld1_r r1 rfl ?_
    refine ld1_r r1 rfl ?_
    rw [hg.chk] at hK
    refine mocc_ok h1 fun w2 hk2 => ?_
    have ev : (if chkP now o.attr o.slot 0 1 2 = 0 then occOf (tabOf ts o.attr) o.slot else 0) = (if chkP now o.attr o.slot 0 1 2 = 0 then ins L o.attr.toNat (dw o.attr.toNat) o.slot else 0) := by
      by_cases hc : chkP now o.attr o.slot 0 1 2 = 0
      · rw [if_pos hc, if_pos hc]
        have hk := chkP_ok hc
        simp at hk
        have hal : o.attr.toNat < ts.length := by rw [hg.len]; omega
        rw [tabOf_eq hal, (hg.ring _ hal).occ o.slot (by omega) (by omega)]
      · rw [if_neg hc, if_neg hc]
    rw [ev] at hK
    simp only [e_fd, e_nck, e_pkt, e_pkf, e_gdtt, e_gdtf, e_gdft, e_gdff, e_ift, e_iff, e_not, e_ln, e_lnT, e_cp, e_cvi, e_ex20, e_ex21, e_ex30, e_ex31, e_ex32, e_add, e_sub, e_mul, e_quo, e_rem, e_and, e_or, e_xor, e_shl, e_shr, e_eql, e_neq, e_lss, e_leq, e_gtr, e_geq, e_beq, e_bne, e_peq1, e_peq2, e_pne1, e_pne2, e_zeq1, e_zeq2, e_zne1, e_zne2, e_feq1, e_fne1, e_feq2, e_fne2, e_seq, e_sne, e_ta1, e_ta2, Nat.zero_add, Nat.add_zero, Bool.not_true, Bool.not_false]
    exact quiet w2 _ _ hk2 hK
  simp only [if_neg k6] at hK
  have e : (o.kind == 6) = false := by simpa using k6
  simp only [e, e_fd, e_nck, e_pkt, e_pkf, e_gdtt, e_gdtf, e_gdft, e_gdff, e_ift, e_iff, e_not, e_ln, e_lnT, e_cp, e_cvi, e_ex20, e_ex21, e_ex30, e_ex31, e_ex32, e_add, e_sub, e_mul, e_quo, e_rem, e_and, e_or, e_xor, e_shl, e_shr, e_eql, e_neq, e_lss, e_leq, e_gtr, e_geq, e_beq, e_bne, e_peq1, e_peq2, e_pne1, e_pne2, e_zeq1, e_zeq2, e_zne1, e_zne2, e_feq1, e_fne1, e_feq2, e_fne2, e_seq, e_sne, e_ta1, e_ta2, Nat.zero_add, Nat.add_zero, Bool.not_true, Bool.not_false]
  clear e
  by_cases k7 : o.kind = 7
  · simp only [if_pos k7] at hK
    have e : (o.kind == 7) = true := by simpa using k7
    simp only [e, e_fd, e_nck, e_pkt, e_pkf, e_gdtt, e_gdtf, e_gdft, e_gdff, e_ift, e_iff, e_not, e_ln, e_lnT, e_cp, e_cvi, e_ex20, e_ex21, e_ex30, e_ex31, e_ex32, e_add, e_sub, e_mul, e_quo, e_rem, e_and, e_or, e_xor, e_shl, e_shr, e_eql, e_neq, e_lss, e_leq, e_gtr, e_geq, e_beq, e_bne, e_peq1, e_peq2, e_pne1, e_pne2, e_zeq1, e_zeq2, e_zne1, e_zne2, e_feq1, e_fne1, e_feq2, e_fne2, e_seq, e_sne, e_ta1, e_ta2, Nat.zero_add, Nat.add_zero, Bool.not_true, Bool.not_false]
    refine ld1_r r1 rfl ?_
    refine ld1_r r1 rfl ?_
    refine ld1_r r1 rfl ?_
    rw [hg.chk] at hK
    refine madm_ok h1 fun w2 hk2 => ?_
    have ev : (if chkP now o.attr o.slot o.cls 1 2 = 0 then admOf (tabOf ts o.attr) o.slot o.cls.toNat else 0) = (if chkP now o.attr o.slot o.cls 1 2 = 0 then ent L o.attr.toNat o.slot o.cls.toNat else 0) := by
      by_cases hc : chkP now o.attr o.slot o.cls 1 2 = 0
      · rw [if_pos hc, if_pos hc]
        have hk := chkP_ok hc
        simp at hk
        have hal : o.attr.toNat < ts.length := by rw [hg.len]; omega
        rw [tabOf_eq hal, (hg.ring _ hal).adm o.slot o.cls.toNat (by omega) (by omega) (by omega)]
      · rw [if_neg hc, if_neg hc]
    rw [ev] at hK
    simp only [e_fd, e_nck, e_pkt, e_pkf, e_gdtt, e_gdtf, e_gdft, e_gdff, e_ift, e_iff, e_not, e_ln, e_lnT, e_cp, e_cvi, e_ex20, e_ex21, e_ex30, e_ex31, e_ex32, e_add, e_sub, e_mul, e_quo, e_rem, e_and, e_or, e_xor, e_shl, e_shr, e_eql, e_neq, e_lss, e_leq, e_gtr, e_geq, e_beq, e_bne, e_peq1, e_peq2, e_pne1, e_pne2, e_zeq1, e_zeq2, e_zne1, e_zne2, e_feq1, e_fne1, e_feq2, e_fne2, e_seq, e_sne, e_ta1, e_ta2, Nat.zero_add, Nat.add_zero, Bool.not_true, Bool.not_false]
    exact quiet w2 _ _ hk2 hK
  simp only [if_neg k7] at hK
  have e : (o.kind == 7) = false := by simpa using k7
  simp only [e, e_fd, e_nck, e_pkt, e_pkf, e_gdtt, e_gdtf, e_gdft, e_gdff, e_ift, e_iff, e_not, e_ln, e_lnT, e_cp, e_cvi, e_ex20, e_ex21, e_ex30, e_ex31, e_ex32, e_add, e_sub, e_mul, e_quo, e_rem, e_and, e_or, e_xor, e_shl, e_shr, e_eql, e_neq, e_lss, e_leq, e_gtr, e_geq, e_beq, e_bne, e_peq1, e_peq2, e_pne1, e_pne2, e_zeq1, e_zeq2, e_zne1, e_zne2, e_feq1, e_fne1, e_feq2, e_fne2, e_seq, e_sne, e_ta1, e_ta2, Nat.zero_add, Nat.add_zero, Bool.not_true, Bool.not_false]
  exact quiet w1 _ _ (Kp.refl _ _) hK
end
end Go.Proofs.Qxb6500897a
