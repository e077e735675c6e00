import Derived.Test.Qxb6500895aD18
namespace Go.Proofs.Qxb6500895a
open Go.Sh Go.RowKit
set_option linter.unusedVariables false
set_option linter.unusedSimpArgs false

section
variable {Q : Nat → Prop} {w w' : World} {mb : Nat} {fl fr : List Value} {kv v : Value} {F : Nat → List Int} {G : Nat → Option (List Int)} {s s' : DS} {K : Value → World → Prop}

theorem playModel_ok {op : Op} (h : Mo Q w mb s) (hb : Bd s.flu s.fr s) (hop : OpQ w Q v op) (hdl : op.data.length ≤ 65536)
    (hK : ∀ w' dv, Mo Q w' mb (playS s op).2.2 → Kp (fun b => b = mb) w w' → (op.kind = 1 → (playS s op).1 = 0 → Vs U8 w' dv (playS s op).2.1) → K (.tuple #[I (playS s op).1, dv]) w') : cl Try.prog 15 #[P mb 0, v] K w := by
  obtain ⟨dv, kvo, rfl, hdv, hby, hkv, hkl, haf, hdb, hkb⟩ := hop
  apply c15
  unfold s15_p10
  refine nw_r fun w1 r1 hk1 hz1 => ?_
  have r1' : Row w1 w.heap.size 34 (opc dv kvo op) := r1
  have h1 := h.kp' hk1
  have hdv1 := hdv.kp' hk1
  have hkv1 : VsP Q I w1 kvo op.keep := ⟨hkv.kp' hk1, hkb⟩
  have qm := h.qm
  simp only [e_fd, e_nck, e_pkt, e_pkf, e_gdtt, e_gdtf, e_gdft, e_gdff, e_ift, e_iff, e_not, e_ln, e_lnT, e_cp, e_cvi, e_ex20, e_ex21, e_ex30, e_ex31, e_ex32, e_add, e_sub, e_mul, e_quo, e_rem, e_and, e_or, e_xor, e_shl, e_shr, e_eql, e_neq, e_lss, e_leq, e_gtr, e_geq, e_beq, e_bne, e_peq1, e_peq2, e_pne1, e_pne2, e_zeq1, e_zeq2, e_zne1, e_zne2, e_feq1, e_fne1, e_feq2, e_fne2, e_seq, e_sne, e_ta1, e_ta2, Nat.zero_add, Nat.add_zero, Bool.not_true, Bool.not_false]
  refine ld1_r r1' (v := I op.kind) rfl ?_
  have back : ∀ w', Kp (fun b => b = mb) w1 w' → Kp (fun b => b = mb) w w' := fun w' hk => hk1.none.trans hk
  unfold s15_p9
  simp only [e_fd, e_nck, e_pkt, e_pkf, e_gdtt, e_gdtf, e_gdft, e_gdff, e_ift, e_iff, e_not, e_ln, e_lnT, e_cp, e_cvi, e_ex20, e_ex21, e_ex30, e_ex31, e_ex32, e_add, e_sub, e_mul, e_quo, e_rem, e_and, e_or, e_xor, e_shl, e_shr, e_eql, e_neq, e_lss, e_leq, e_gtr, e_geq, e_beq, e_bne, e_peq1, e_peq2, e_pne1, e_pne2, e_zeq1, e_zeq2, e_zne1, e_zne2, e_feq1, e_fne1, e_feq2, e_fne2, e_seq, e_sne, e_ta1, e_ta2, Nat.zero_add, Nat.add_zero, Bool.not_true, Bool.not_false]
  unfold s15_p8
  by_cases k0 : op.kind = 0
  · have e : (op.kind == 0) = true := by simpa using k0
    simp only [e, e_fd, e_nck, e_pkt, e_pkf, e_gdtt, e_gdtf, e_gdft, e_gdff, e_ift, e_iff, e_not, e_ln, e_lnT, e_cp, e_cvi, e_ex20, e_ex21, e_ex30, e_ex31, e_ex32, e_add, e_sub, e_mul, e_quo, e_rem, e_and, e_or, e_xor, e_shl, e_shr, e_eql, e_neq, e_lss, e_leq, e_gtr, e_geq, e_beq, e_bne, e_peq1, e_peq2, e_pne1, e_pne2, e_zeq1, e_zeq2, e_zne1, e_zne2, e_feq1, e_fne1, e_feq2, e_fne2, e_seq, e_sne, e_ta1, e_ta2, Nat.zero_add, Nat.add_zero, Bool.not_true, Bool.not_false]
    have ep : playS s op = ((wrS s op.sec op.data).1, [], (wrS s op.sec op.data).2) := by unfold playS; simp [k0]
    rw [ep] at hK
    unfold s15_p2
    simp only [e_fd, e_nck, e_pkt, e_pkf, e_gdtt, e_gdtf, e_gdft, e_gdff, e_ift, e_iff, e_not, e_ln, e_lnT, e_cp, e_cvi, e_ex20, e_ex21, e_ex30, e_ex31, e_ex32, e_add, e_sub, e_mul, e_quo, e_rem, e_and, e_or, e_xor, e_shl, e_shr, e_eql, e_neq, e_lss, e_leq, e_gtr, e_geq, e_beq, e_bne, e_peq1, e_peq2, e_pne1, e_pne2, e_zeq1, e_zeq2, e_zne1, e_zne2, e_feq1, e_fne1, e_feq2, e_fne2, e_seq, e_sne, e_ta1, e_ta2, Nat.zero_add, Nat.add_zero, Bool.not_true, Bool.not_false]
    refine ld1_r r1' (v := I op.sec) rfl ?_
    refine ld1_r r1' (v := dv) rfl ?_
    refine mwrite_ok h1 hb hdv1 hdl (fun b o c h0 e q => hdb b o c h0 e (q ▸ qm)) fun w2 h2 hk2 => ?_
    exact hK w2 nilS h2 (back w2 hk2) (fun q => by omega)
  · have e : (op.kind == 0) = false := by simpa using k0
    simp only [e, e_fd, e_nck, e_pkt, e_pkf, e_gdtt, e_gdtf, e_gdft, e_gdff, e_ift, e_iff, e_not, e_ln, e_lnT, e_cp, e_cvi, e_ex20, e_ex21, e_ex30, e_ex31, e_ex32, e_add, e_sub, e_mul, e_quo, e_rem, e_and, e_or, e_xor, e_shl, e_shr, e_eql, e_neq, e_lss, e_leq, e_gtr, e_geq, e_beq, e_bne, e_peq1, e_peq2, e_pne1, e_pne2, e_zeq1, e_zeq2, e_zne1, e_zne2, e_feq1, e_fne1, e_feq2, e_fne2, e_seq, e_sne, e_ta1, e_ta2, Nat.zero_add, Nat.add_zero, Bool.not_true, Bool.not_false]
    unfold s15_p7
    simp only [e_fd, e_nck, e_pkt, e_pkf, e_gdtt, e_gdtf, e_gdft, e_gdff, e_ift, e_iff, e_not, e_ln, e_lnT, e_cp, e_cvi, e_ex20, e_ex21, e_ex30, e_ex31, e_ex32, e_add, e_sub, e_mul, e_quo, e_rem, e_and, e_or, e_xor, e_shl, e_shr, e_eql, e_neq, e_lss, e_leq, e_gtr, e_geq, e_beq, e_bne, e_peq1, e_peq2, e_pne1, e_pne2, e_zeq1, e_zeq2, e_zne1, e_zne2, e_feq1, e_fne1, e_feq2, e_fne2, e_seq, e_sne, e_ta1, e_ta2, Nat.zero_add, Nat.add_zero, Bool.not_true, Bool.not_false]
    unfold s15_p6
    by_cases k1 : op.kind = 1
    · have e : (op.kind == 1) = true := by simpa using k1
      simp only [e, e_fd, e_nck, e_pkt, e_pkf, e_gdtt, e_gdtf, e_gdft, e_gdff, e_ift, e_iff, e_not, e_ln, e_lnT, e_cp, e_cvi, e_ex20, e_ex21, e_ex30, e_ex31, e_ex32, e_add, e_sub, e_mul, e_quo, e_rem, e_and, e_or, e_xor, e_shl, e_shr, e_eql, e_neq, e_lss, e_leq, e_gtr, e_geq, e_beq, e_bne, e_peq1, e_peq2, e_pne1, e_pne2, e_zeq1, e_zeq2, e_zne1, e_zne2, e_feq1, e_fne1, e_feq2, e_fne2, e_seq, e_sne, e_ta1, e_ta2, Nat.zero_add, Nat.add_zero, Bool.not_true, Bool.not_false]
      have ep : playS s op = (chkC s op.sec (clampL op.len : Nat), rdD s op.sec (fillerL op), rdS s op.sec (clampL op.len : Nat)) := by unfold playS; simp [k1]
      have hrd := play_read (s := s) (op := op) k1
      rw [ep] at hK hrd
      unfold s15_p4 s15_p4_d
      simp only [e_fd, e_nck, e_pkt, e_pkf, e_gdtt, e_gdtf, e_gdft, e_gdff, e_ift, e_iff, e_not, e_ln, e_lnT, e_cp, e_cvi, e_ex20, e_ex21, e_ex30, e_ex31, e_ex32, e_add, e_sub, e_mul, e_quo, e_rem, e_and, e_or, e_xor, e_shl, e_shr, e_eql, e_neq, e_lss, e_leq, e_gtr, e_geq, e_beq, e_bne, e_peq1, e_peq2, e_pne1, e_pne2, e_zeq1, e_zeq2, e_zne1, e_zne2, e_feq1, e_fne1, e_feq2, e_fne2, e_seq, e_sne, e_ta1, e_ta2, Nat.zero_add, Nat.add_zero, Bool.not_true, Bool.not_false]
      refine ld1_r r1'.drw (v := I op.sec) rfl ?_
      refine ld1_r r1'.drw (v := I op.len) rfl ?_
      refine length_ok ⟨Below.refl _ _, ?_⟩
      refine mread_ok (h1.kp' (w' := drw w1) kp_drw) fun w2 u h2 hk2 hu => ?_
      have fin : s15_p3 K u (I (chkC s op.sec (clampL op.len : Nat))) w2 := by
        unfold s15_p3
        refine hK w2 u h2 (back w2 (kp_drw.trans hk2)) (fun _ hc => ?_)
        obtain ⟨_, _, _, e4⟩ := hrd hc
        rw [e4]
        exact (hu hc).toVs
      simp only [and_self, e_fd, e_nck, e_pkt, e_pkf, e_gdtt, e_gdtf, e_gdft, e_gdff, e_ift, e_iff, e_not, e_ln, e_lnT, e_cp, e_cvi, e_ex20, e_ex21, e_ex30, e_ex31, e_ex32, e_add, e_sub, e_mul, e_quo, e_rem, e_and, e_or, e_xor, e_shl, e_shr, e_eql, e_neq, e_lss, e_leq, e_gtr, e_geq, e_beq, e_bne, e_peq1, e_peq2, e_pne1, e_pne2, e_zeq1, e_zeq2, e_zne1, e_zne2, e_feq1, e_fne1, e_feq2, e_fne2, e_seq, e_sne, e_ta1, e_ta2, Nat.zero_add, Nat.add_zero, Bool.not_true, Bool.not_false]
      exact fin
    · have e : (op.kind == 1) = false := by simpa using k1
      simp only [e, e_fd, e_nck, e_pkt, e_pkf, e_gdtt, e_gdtf, e_gdft, e_gdff, e_ift, e_iff, e_not, e_ln, e_lnT, e_cp, e_cvi, e_ex20, e_ex21, e_ex30, e_ex31, e_ex32, e_add, e_sub, e_mul, e_quo, e_rem, e_and, e_or, e_xor, e_shl, e_shr, e_eql, e_neq, e_lss, e_leq, e_gtr, e_geq, e_beq, e_bne, e_peq1, e_peq2, e_pne1, e_pne2, e_zeq1, e_zeq2, e_zne1, e_zne2, e_feq1, e_fne1, e_feq2, e_fne2, e_seq, e_sne, e_ta1, e_ta2, Nat.zero_add, Nat.add_zero, Bool.not_true, Bool.not_false]
      unfold s15_p5
      simp only [e_fd, e_nck, e_pkt, e_pkf, e_gdtt, e_gdtf, e_gdft, e_gdff, e_ift, e_iff, e_not, e_ln, e_lnT, e_cp, e_cvi, e_ex20, e_ex21, e_ex30, e_ex31, e_ex32, e_add, e_sub, e_mul, e_quo, e_rem, e_and, e_or, e_xor, e_shl, e_shr, e_eql, e_neq, e_lss, e_leq, e_gtr, e_geq, e_beq, e_bne, e_peq1, e_peq2, e_pne1, e_pne2, e_zeq1, e_zeq2, e_zne1, e_zne2, e_feq1, e_fne1, e_feq2, e_fne2, e_seq, e_sne, e_ta1, e_ta2, Nat.zero_add, Nat.add_zero, Bool.not_true, Bool.not_false]
      by_cases k2 : op.kind = 2
      · have e : (op.kind == 2) = true := by simpa using k2
        simp only [e, e_fd, e_nck, e_pkt, e_pkf, e_gdtt, e_gdtf, e_gdft, e_gdff, e_ift, e_iff, e_not, e_ln, e_lnT, e_cp, e_cvi, e_ex20, e_ex21, e_ex30, e_ex31, e_ex32, e_add, e_sub, e_mul, e_quo, e_rem, e_and, e_or, e_xor, e_shl, e_shr, e_eql, e_neq, e_lss, e_leq, e_gtr, e_geq, e_beq, e_bne, e_peq1, e_peq2, e_pne1, e_pne2, e_zeq1, e_zeq2, e_zne1, e_zne2, e_feq1, e_fne1, e_feq2, e_fne2, e_seq, e_sne, e_ta1, e_ta2, Nat.zero_add, Nat.add_zero, Bool.not_true, Bool.not_false]
        have ep : playS s op = ((flS s).1, [], (flS s).2) := by unfold playS; simp [k2]
        rw [ep] at hK
        refine mflush_ok h1 hb fun w2 h2 hk2 => ?_
        exact hK w2 nilS h2 (back w2 hk2) (fun q => by omega)
      · have e : (op.kind == 2) = false := by simpa using k2
        simp only [e, e_fd, e_nck, e_pkt, e_pkf, e_gdtt, e_gdtf, e_gdft, e_gdff, e_ift, e_iff, e_not, e_ln, e_lnT, e_cp, e_cvi, e_ex20, e_ex21, e_ex30, e_ex31, e_ex32, e_add, e_sub, e_mul, e_quo, e_rem, e_and, e_or, e_xor, e_shl, e_shr, e_eql, e_neq, e_lss, e_leq, e_gtr, e_geq, e_beq, e_bne, e_peq1, e_peq2, e_pne1, e_pne2, e_zeq1, e_zeq2, e_zne1, e_zne2, e_feq1, e_fne1, e_feq2, e_fne2, e_seq, e_sne, e_ta1, e_ta2, Nat.zero_add, Nat.add_zero, Bool.not_true, Bool.not_false]
        by_cases k3 : op.kind = 3
        · have e : (op.kind == 3) = true := by simpa using k3
          simp only [e, e_fd, e_nck, e_pkt, e_pkf, e_gdtt, e_gdtf, e_gdft, e_gdff, e_ift, e_iff, e_not, e_ln, e_lnT, e_cp, e_cvi, e_ex20, e_ex21, e_ex30, e_ex31, e_ex32, e_add, e_sub, e_mul, e_quo, e_rem, e_and, e_or, e_xor, e_shl, e_shr, e_eql, e_neq, e_lss, e_leq, e_gtr, e_geq, e_beq, e_bne, e_peq1, e_peq2, e_pne1, e_pne2, e_zeq1, e_zeq2, e_zne1, e_zne2, e_feq1, e_fne1, e_feq2, e_fne2, e_seq, e_sne, e_ta1, e_ta2, Nat.zero_add, Nat.add_zero, Bool.not_true, Bool.not_false]
          have ep : playS s op = ((crS s op.keep op.torn op.at_).1, [], (crS s op.keep op.torn op.at_).2) := by unfold playS; simp [k3]
          rw [ep] at hK
          refine ldn_r r1' (show 5 + 3 ≤ 8 by decide) ?_
          refine mcrash_ok (pv := kvo) (keep := op.keep) (torn := op.torn) (at_ := op.at_) h1 hb hkv1 fun w2 h2 hk2 => ?_
          exact hK w2 nilS h2 (back w2 hk2) (fun q => by omega)
        · have e : (op.kind == 3) = false := by simpa using k3
          simp only [e, e_fd, e_nck, e_pkt, e_pkf, e_gdtt, e_gdtf, e_gdft, e_gdff, e_ift, e_iff, e_not, e_ln, e_lnT, e_cp, e_cvi, e_ex20, e_ex21, e_ex30, e_ex31, e_ex32, e_add, e_sub, e_mul, e_quo, e_rem, e_and, e_or, e_xor, e_shl, e_shr, e_eql, e_neq, e_lss, e_leq, e_gtr, e_geq, e_beq, e_bne, e_peq1, e_peq2, e_pne1, e_pne2, e_zeq1, e_zeq2, e_zne1, e_zne2, e_feq1, e_fne1, e_feq2, e_fne2, e_seq, e_sne, e_ta1, e_ta2, Nat.zero_add, Nat.add_zero, Bool.not_true, Bool.not_false]
          by_cases k4 : op.kind = 4
          · have e : (op.kind == 4) = true := by simpa using k4
            simp only [e, e_fd, e_nck, e_pkt, e_pkf, e_gdtt, e_gdtf, e_gdft, e_gdff, e_ift, e_iff, e_not, e_ln, e_lnT, e_cp, e_cvi, e_ex20, e_ex21, e_ex30, e_ex31, e_ex32, e_add, e_sub, e_mul, e_quo, e_rem, e_and, e_or, e_xor, e_shl, e_shr, e_eql, e_neq, e_lss, e_leq, e_gtr, e_geq, e_beq, e_bne, e_peq1, e_peq2, e_pne1, e_pne2, e_zeq1, e_zeq2, e_zne1, e_zne2, e_feq1, e_fne1, e_feq2, e_fne2, e_seq, e_sne, e_ta1, e_ta2, Nat.zero_add, Nat.add_zero, Bool.not_true, Bool.not_false]
            have ep : playS s op = ((reS s).1, [], (reS s).2) := by unfold playS; simp [k4]
            rw [ep] at hK
            refine mrestart_ok h1 fun w2 h2 hk2 => ?_
            exact hK w2 nilS h2 (back w2 hk2) (fun q => by omega)
          · have e : (op.kind == 4) = false := by simpa using k4
            simp only [e, e_fd, e_nck, e_pkt, e_pkf, e_gdtt, e_gdtf, e_gdft, e_gdff, e_ift, e_iff, e_not, e_ln, e_lnT, e_cp, e_cvi, e_ex20, e_ex21, e_ex30, e_ex31, e_ex32, e_add, e_sub, e_mul, e_quo, e_rem, e_and, e_or, e_xor, e_shl, e_shr, e_eql, e_neq, e_lss, e_leq, e_gtr, e_geq, e_beq, e_bne, e_peq1, e_peq2, e_pne1, e_pne2, e_zeq1, e_zeq2, e_zne1, e_zne2, e_feq1, e_fne1, e_feq2, e_fne2, e_seq, e_sne, e_ta1, e_ta2, Nat.zero_add, Nat.add_zero, Bool.not_true, Bool.not_false]
            by_cases k5 : op.kind = 5
            · have e : (op.kind == 5) = true := by simpa using k5
              simp only [e, e_fd, e_nck, e_pkt, e_pkf, e_gdtt, e_gdtf, e_gdft, e_gdff, e_ift, e_iff, e_not, e_ln, e_lnT, e_cp, e_cvi, e_ex20, e_ex21, e_ex30, e_ex31, e_ex32, e_add, e_sub, e_mul, e_quo, e_rem, e_and, e_or, e_xor, e_shl, e_shr, e_eql, e_neq, e_lss, e_leq, e_gtr, e_geq, e_beq, e_bne, e_peq1, e_peq2, e_pne1, e_pne2, e_zeq1, e_zeq2, e_zne1, e_zne2, e_feq1, e_fne1, e_feq2, e_fne2, e_seq, e_sne, e_ta1, e_ta2, Nat.zero_add, Nat.add_zero, Bool.not_true, Bool.not_false]
              have ep : playS s op = ((arS s op.after op.keep op.torn op.at_).1, [], (arS s op.after op.keep op.torn op.at_).2) := by unfold playS; simp [k5]
              rw [ep] at hK
              refine ld1_r r1' (v := I op.after) rfl ?_
              refine ldn_r r1' (show 5 + 3 ≤ 8 by decide) ?_
              refine marm_ok (pv := kvo) (keep := op.keep) (torn := op.torn) (at_ := op.at_) h1 hkv1 hkl fun w2 h2 hk2 => ?_
              exact hK w2 nilS h2 (back w2 hk2) (fun q => by omega)
            · have e : (op.kind == 5) = false := by simpa using k5
              simp only [e, e_fd, e_nck, e_pkt, e_pkf, e_gdtt, e_gdtf, e_gdft, e_gdff, e_ift, e_iff, e_not, e_ln, e_lnT, e_cp, e_cvi, e_ex20, e_ex21, e_ex30, e_ex31, e_ex32, e_add, e_sub, e_mul, e_quo, e_rem, e_and, e_or, e_xor, e_shl, e_shr, e_eql, e_neq, e_lss, e_leq, e_gtr, e_geq, e_beq, e_bne, e_peq1, e_peq2, e_pne1, e_pne2, e_zeq1, e_zeq2, e_zne1, e_zne2, e_feq1, e_fne1, e_feq2, e_fne2, e_seq, e_sne, e_ta1, e_ta2, Nat.zero_add, Nat.add_zero, Bool.not_true, Bool.not_false]
              by_cases k6 : op.kind = 6
              · have e : (op.kind == 6) = true := by simpa using k6
                simp only [e, e_fd, e_nck, e_pkt, e_pkf, e_gdtt, e_gdtf, e_gdft, e_gdff, e_ift, e_iff, e_not, e_ln, e_lnT, e_cp, e_cvi, e_ex20, e_ex21, e_ex30, e_ex31, e_ex32, e_add, e_sub, e_mul, e_quo, e_rem, e_and, e_or, e_xor, e_shl, e_shr, e_eql, e_neq, e_lss, e_leq, e_gtr, e_geq, e_beq, e_bne, e_peq1, e_peq2, e_pne1, e_pne2, e_zeq1, e_zeq2, e_zne1, e_zne2, e_feq1, e_fne1, e_feq2, e_fne2, e_seq, e_sne, e_ta1, e_ta2, Nat.zero_add, Nat.add_zero, Bool.not_true, Bool.not_false]
                have ep : playS s op = ((diS s).1, [], (diS s).2) := by unfold playS; simp [k6]
                rw [ep] at hK
                refine mdisarm_ok h1 fun w2 h2 hk2 => ?_
                exact hK w2 nilS h2 (back w2 hk2) (fun q => by omega)
              · have e : (op.kind == 6) = false := by simpa using k6
                simp only [e, e_fd, e_nck, e_pkt, e_pkf, e_gdtt, e_gdtf, e_gdft, e_gdff, e_ift, e_iff, e_not, e_ln, e_lnT, e_cp, e_cvi, e_ex20, e_ex21, e_ex30, e_ex31, e_ex32, e_add, e_sub, e_mul, e_quo, e_rem, e_and, e_or, e_xor, e_shl, e_shr, e_eql, e_neq, e_lss, e_leq, e_gtr, e_geq, e_beq, e_bne, e_peq1, e_peq2, e_pne1, e_pne2, e_zeq1, e_zeq2, e_zne1, e_zne2, e_feq1, e_fne1, e_feq2, e_fne2, e_seq, e_sne, e_ta1, e_ta2, Nat.zero_add, Nat.add_zero, Bool.not_true, Bool.not_false]
                have ep : playS s op = (0, [], s) := by unfold playS; simp [k0, k1, k2, k3, k4, k5, k6]
                rw [ep] at hK
                unfold s15_p1
                exact hK w1 nilS h1 hk1.none (fun q => by omega)

theorem mnew_ok (hQ : ∀ b, Q b → b < w.heap.size) (hK : ∀ w' mb, w.heap.size ≤ mb → Mo (fun b => Q b ∨ b = mb) w' mb s0 → Kp (fun _ => False) w w' → K (P mb 0) w') : cl Try.prog 13 #[] K w := by
  apply c13
  unfold s13_p7
  refine bdq_r (l := nil12 ++ (nil12 ++ mt nilS s0)) rfl ?_
  refine nw_r fun w1 r1 hk1 hz1 => ?_
  have r1' : Row w1 w.heap.size 71 (nil12 ++ (nil12 ++ mt nilS s0)) := r1
  refine ⟨fun n l w' => ∃ (k : Nat) (fl : List Value), k ≤ 12 ∧ n = 12 - k ∧ l = [P w.heap.size 0, I k] ∧ fl.length = 12 ∧ Row w' w.heap.size 71 (fl ++ (nil12 ++ mt nilS s0)) ∧ (∀ i, i < k → ∃ u, fl[i]? = some u ∧ SecV (fun b => Q b ∨ b = w.heap.size) w' u (some (List.replicate 16 0))) ∧ Kp (fun _ => False) w w',
    12, ⟨0, nil12, by omega, by omega, rfl, rfl, r1', fun i hi => by omega, hk1⟩, ?_⟩
  rintro n l w2 ⟨k, fl, hk, rfl, rfl, hl, r2, hs2, hk2⟩
  rw [s13_p6_Fe]
  unfold s13_p5
  simp only [e_fd, e_nck, e_pkt, e_pkf, e_gdtt, e_gdtf, e_gdft, e_gdff, e_ift, e_iff, e_not, e_ln, e_lnT, e_cp, e_cvi, e_ex20, e_ex21, e_ex30, e_ex31, e_ex32, e_add, e_sub, e_mul, e_quo, e_rem, e_and, e_or, e_xor, e_shl, e_shr, e_eql, e_neq, e_lss, e_leq, e_gtr, e_geq, e_beq, e_bne, e_peq1, e_peq2, e_pne1, e_pne2, e_zeq1, e_zeq2, e_zne1, e_zne2, e_feq1, e_fne1, e_feq2, e_fne2, e_seq, e_sne, e_ta1, e_ta2, Nat.zero_add, Nat.add_zero, Bool.not_true, Bool.not_false]
  by_cases hlt : k < 12
  · have hlt' : (k : Int) < 12 := by omega
    simp only [hlt', decide_true, e_fd, e_nck, e_pkt, e_pkf, e_gdtt, e_gdtf, e_gdft, e_gdff, e_ift, e_iff, e_not, e_ln, e_lnT, e_cp, e_cvi, e_ex20, e_ex21, e_ex30, e_ex31, e_ex32, e_add, e_sub, e_mul, e_quo, e_rem, e_and, e_or, e_xor, e_shl, e_shr, e_eql, e_neq, e_lss, e_leq, e_gtr, e_geq, e_beq, e_bne, e_peq1, e_peq2, e_pne1, e_pne2, e_zeq1, e_zeq2, e_zne1, e_zne2, e_feq1, e_fne1, e_feq2, e_fne2, e_seq, e_sne, e_ta1, e_ta2, Nat.zero_add, Nat.add_zero, Bool.not_true, Bool.not_false]
    unfold s13_p4 s13_p3 s13_p3_d
    simp only [e_fd, e_nck, e_pkt, e_pkf, e_gdtt, e_gdtf, e_gdft, e_gdff, e_ift, e_iff, e_not, e_ln, e_lnT, e_cp, e_cvi, e_ex20, e_ex21, e_ex30, e_ex31, e_ex32, e_add, e_sub, e_mul, e_quo, e_rem, e_and, e_or, e_xor, e_shl, e_shr, e_eql, e_neq, e_lss, e_leq, e_gtr, e_geq, e_beq, e_bne, e_peq1, e_peq2, e_pne1, e_pne2, e_zeq1, e_zeq2, e_zne1, e_zne2, e_feq1, e_fne1, e_feq2, e_fne2, e_seq, e_sne, e_ta1, e_ta2, Nat.zero_add, Nat.add_zero, Bool.not_true, Bool.not_false]
    refine ix0 hlt ?_
    refine mks_r (n := 16) (by decide) (by decide) fun w3 r3 hk3 hz3 => ?_
    have r23 := hk3.row' r2.drw
    refine st1_r r23 (by simp [hl]; omega) rfl fun w4 r4 hk4 hz4 => ?_
    rw [ms1 hl hlt] at r4
    unfold s13_p2
    simp only [e_fd, e_nck, e_pkt, e_pkf, e_gdtt, e_gdtf, e_gdft, e_gdff, e_ift, e_iff, e_not, e_ln, e_lnT, e_cp, e_cvi, e_ex20, e_ex21, e_ex30, e_ex31, e_ex32, e_add, e_sub, e_mul, e_quo, e_rem, e_and, e_or, e_xor, e_shl, e_shr, e_eql, e_neq, e_lss, e_leq, e_gtr, e_geq, e_beq, e_bne, e_peq1, e_peq2, e_pne1, e_pne2, e_zeq1, e_zeq2, e_zne1, e_zne2, e_feq1, e_fne1, e_feq2, e_fne2, e_seq, e_sne, e_ta1, e_ta2, Nat.zero_add, Nat.add_zero, Bool.not_true, Bool.not_false]
    rw [wrap64_id (by omega) (by omega)]
    have hk24 : Kp (fun b => b = w.heap.size) w2 w4 := (kp_drw.trans hk3.none).trans hk4
    have sz := hk2.size
    have r34 : Row w4 (drw w2).heap.size 5 (List.replicate 16 (U8 0)) := hk4.row r3 (fun (e : _ = _) => row_ne r3 r23 (by decide) e)
    have esz : (drw w2).heap.size = w2.heap.size := rfl
    refine ⟨12 - (k + 1), by omega, k + 1, fl.set k _, by omega, rfl, by simp, by rw [List.length_set]; exact hl, r4, fun i hi => ?_, hk2.then hk24 (fun b hb (e : b = _) => by omega)⟩
    rw [List.getElem?_set]
    by_cases e : k = i
    · subst e
      rw [if_pos rfl, if_pos (by omega)]
      refine ⟨_, rfl, .inr ⟨_, (drw w2).heap.size, 16, [], rfl, rfl, by decide, by decide, by rw [List.append_nil, List.map_replicate]; exact r34, fun q => ?_⟩⟩
      rcases q with q | q
      · have := hQ _ q; omega
      · exact row_ne r34 r4 (by decide) q
    · rw [if_neg e]
      obtain ⟨u, a, b⟩ := hs2 i (by omega)
      exact ⟨u, a, b.mv hk24 (fun b e => .inr e) (fun b q => .inl q)⟩
  · have hlt' : ¬ (k : Int) < 12 := by omega
    simp only [hlt', decide_false, e_fd, e_nck, e_pkt, e_pkf, e_gdtt, e_gdtf, e_gdft, e_gdff, e_ift, e_iff, e_not, e_ln, e_lnT, e_cp, e_cvi, e_ex20, e_ex21, e_ex30, e_ex31, e_ex32, e_add, e_sub, e_mul, e_quo, e_rem, e_and, e_or, e_xor, e_shl, e_shr, e_eql, e_neq, e_lss, e_leq, e_gtr, e_geq, e_beq, e_bne, e_peq1, e_peq2, e_pne1, e_pne2, e_zeq1, e_zeq2, e_zne1, e_zne2, e_feq1, e_fne1, e_feq2, e_fne2, e_seq, e_sne, e_ta1, e_ta2, Nat.zero_add, Nat.add_zero, Bool.not_true, Bool.not_false]
    unfold s13_p1
    have hsz := hk2.size
    refine hK w2 w.heap.size (Nat.le_refl _) ⟨fl, nil12, nilS, r2, hl, rfl, fun i hi => hs2 i (by omega), fun i hi => ⟨_, nil12_get hi, .inl ⟨rfl, rfl⟩⟩, ⟨vs_nil, fun b o c h0 _ => by simp [s0] at h0⟩, .inr rfl, fun b q => ?_⟩ hk2
    rcases q with q | q
    · have := hQ b q; omega
    · subst q; exact r2.lt

/-! ### the model's view -/
def dirtyK (s : DS) (k : Nat) : List Int := ((List.range k).filter (fun i => (s.fr i).isSome)).map (fun i => ((i : Nat) : Int))
theorem dirtyK_succ (s : DS) (k : Nat) : dirtyK s (k + 1) = dirtyK s k ++ (if (s.fr k).isSome then [((k : Nat) : Int)] else []) := by
  unfold dirtyK
  rw [List.range_succ, List.filter_append, List.map_append]
  congr 1
  by_cases h : (s.fr k).isSome
  · simp [h]
  · simp [h]
def oneV (v : Value) : List Value := [v]
theorem oneV_len (v : Value) : (oneV v).length = 1 := rfl
theorem rows_oneV (xs : List Value) : rows oneV xs = xs := by
  induction xs with
  | nil => rfl
  | cons x xs ih => rw [rows_cons, ih]; rfl

/-- the state of the view's loop; w0 is the world it began in -/
structure Vm (Q : Nat → Prop) (w0 w : World) (t2 t3 : Nat) (s : DS) (kv : Value) (kd kn kf : Nat) (o1 o2 o3 : Option Nat) (dv nv fv : Value) (ns fs : List Value) : Prop where
  kp : Kp (fun _ => False) w0 w
  r2 : Row w t2 45 [.bool false, I 0, nilS, I 0, I 0, nilS, I 0, I 0, I 0, I 0, I 0, nilS, nilS]
  r3 : Row w t3 45 [.bool s.off, I s.left, kv, I s.torn, I s.at_, dv, I s.rd, I s.wr, I s.fl, I s.cr, I s.rs, nv, fv]
  ne : t2 ≠ t3
  f2 : w0.heap.size ≤ t2
  f3 : w0.heap.size ≤ t3
  d : Sl i1 1 w 3 o1 dv (dirtyK s kd)
  n : Sl oneV 1 w 29 o2 nv ns
  f : Sl oneV 1 w 29 o3 fv fs
  q1 : ∀ b, o1 = some b → w0.heap.size ≤ b
  q2 : ∀ b, o2 = some b → w0.heap.size ≤ b
  q3 : ∀ b, o3 = some b → w0.heap.size ≤ b
  ap : ∀ b, o2 = some b → o3 ≠ some b
  ln : ns.length = kn
  lf : fs.length = kf
  sn : ∀ i, i < kn → ∃ u, ns[i]? = some u ∧ SecV Q w0 u (some (nowS s i))
  sf : ∀ i, i < kf → ∃ u, fs[i]? = some u ∧ SecV Q w0 u (some (s.flu i))

variable {w0 w1 : World} {t2 t3 kd kn kf k : Nat} {o1 o2 o3 o1' o2' o3' : Option Nat} {dv nv fv dv' nv' fv' : Value} {ns fs : List Value}
theorem Vm.kp' (h : Vm Q w0 w t2 t3 s kv kd kn kf o1 o2 o3 dv nv fv ns fs) (hk : Kp (fun _ => False) w w1) : Vm Q w0 w1 t2 t3 s kv kd kn kf o1 o2 o3 dv nv fv ns fs :=
  ⟨h.kp.trans hk, hk.row' h.r2, hk.row' h.r3, h.ne, h.f2, h.f3, h.d.kp' hk, h.n.kp' hk, h.f.kp' hk, h.q1, h.q2, h.q3, h.ap, h.ln, h.lf, h.sn, h.sf⟩
theorem tag_ne {e : TypeId} {ob : Option Nat} {xs : List Value} {t : TypeId} {b : Nat} {l : List Value} (h : Sl oneV 1 w e ob v xs) (hr : Row w b t l) (ht : t ≠ e) : ¬ ob = some b := fun q => by
  obtain ⟨l', hr'⟩ := h.row q; exact row_ne hr hr' ht rfl
/-- the list of dirty sectors has grown -/
theorem Vm.addD (h : Vm Q w0 w t2 t3 s kv kd kn kf o1 o2 o3 dv nv fv ns fs) (hk : Kp (fun b => o1 = some b) w w1) (hs : Sl i1 1 w1 3 o1' dv' (dirtyK s (kd + 1))) (ho : o1' = o1 ∨ ∃ b, o1' = some b ∧ w.heap.size ≤ b) {R : World → Prop}
    (hR : ∀ w', Vm Q w0 w' t2 t3 s kv (kd + 1) kn kf o1' o2 o3 dv' nv fv ns fs → R w') : st1 (P t3 5) dv' R w1 := by
  have tn : ∀ {t b l}, Row w b t l → t ≠ 3 → ¬ o1 = some b := fun hr ht q => by obtain ⟨l', hr'⟩ := h.d.row q; exact row_ne hr hr' ht rfl
  have r31 := hk.row h.r3 (tn h.r3 (by decide))
  refine st1_r r31 (show 5 < 13 by decide) (sl_scal hs) fun w2 r32 hk2 hz2 => ?_
  have t3n : ∀ {t b l}, Row w1 b t l → t ≠ 45 → ¬ b = t3 := fun hr ht q => row_ne hr r31 ht q
  have sz := h.kp.size
  refine hR w2 ⟨(h.kp.then hk (fun b hb q => by have := h.q1 b q; omega)).then hk2 (fun b hb (q : b = t3) => by have := h.f3; omega), hk2.row (hk.row h.r2 (tn h.r2 (by decide))) h.ne, r32, h.ne, h.f2, h.f3, hs.kp hk2 (fun b hb => by obtain ⟨l, hr⟩ := hs.row hb; exact t3n hr (by decide)), (h.n.kp hk (fun b hb => by obtain ⟨l, hr⟩ := h.n.row hb; exact tn hr (by decide))).kp hk2 (fun b hb => ?_), (h.f.kp hk (fun b hb => by obtain ⟨l, hr⟩ := h.f.row hb; exact tn hr (by decide))).kp hk2 (fun b hb => ?_), fun b hb => ?_, h.q2, h.q3, h.ap, h.ln, h.lf, h.sn, h.sf⟩
  · obtain ⟨l, hr⟩ := h.n.row hb
    exact t3n (hk.row hr (tn hr (by decide))) (by decide)
  · obtain ⟨l, hr⟩ := h.f.row hb
    exact t3n (hk.row hr (tn hr (by decide))) (by decide)
  · rcases ho with e | ⟨b', e, hb'⟩
    · rw [e] at hb; exact h.q1 b hb
    · rw [e] at hb; cases hb; omega
/-- a sector as it reads now -/
theorem Vm.addN {u : Value} (h : Vm Q w0 w t2 t3 s kv kd kn kf o1 o2 o3 dv nv fv ns fs) (hu : SecV Q w0 u (some (nowS s kn))) (hk : Kp (fun b => o2 = some b) w w1) (hs : Sl oneV 1 w1 29 o2' nv' (ns ++ [u])) (ho : o2' = o2 ∨ ∃ b, o2' = some b ∧ w.heap.size ≤ b) {R : World → Prop}
    (hR : ∀ w', Vm Q w0 w' t2 t3 s kv kd (kn + 1) kf o1 o2' o3 dv nv' fv (ns ++ [u]) fs → R w') : st1 (P t3 11) nv' R w1 := by
  have tn : ∀ {t b l}, Row w b t l → t ≠ 29 → ¬ o2 = some b := fun hr ht => tag_ne h.n hr ht
  have r31 := hk.row h.r3 (tn h.r3 (by decide))
  refine st1_r r31 (show 11 < 13 by decide) (sl_scal hs) fun w2 r32 hk2 hz2 => ?_
  have t3n : ∀ {t b l}, Row w1 b t l → t ≠ 45 → ¬ b = t3 := fun hr ht q => row_ne hr r31 ht q
  have sz := h.kp.size
  have hf1 : Sl oneV 1 w1 29 o3 fv fs := h.f.kp hk (fun b hb q => h.ap b q hb)
  refine hR w2 ⟨(h.kp.then hk (fun b hb q => by have := h.q2 b q; omega)).then hk2 (fun b hb (q : b = t3) => by have := h.f3; omega), hk2.row (hk.row h.r2 (tn h.r2 (by decide))) h.ne, r32, h.ne, h.f2, h.f3, (h.d.kp hk (fun b hb => by obtain ⟨l, hr⟩ := h.d.row hb; exact tn hr (by decide))).kp hk2 (fun b hb => ?_), hs.kp hk2 (fun b hb => by obtain ⟨l, hr⟩ := hs.row hb; exact t3n hr (by decide)), hf1.kp hk2 (fun b hb => by obtain ⟨l, hr⟩ := hf1.row hb; exact t3n hr (by decide)), h.q1, fun b hb => ?_, h.q3, fun b hb q => ?_, by rw [List.length_append, h.ln]; rfl, h.lf, fun i hi => ?_, h.sf⟩
  · obtain ⟨l, hr⟩ := h.d.row hb
    exact t3n (hk.row hr (tn hr (by decide))) (by decide)
  · rcases ho with e | ⟨b', e, hb'⟩
    · rw [e] at hb; exact h.q2 b hb
    · rw [e] at hb; cases hb; omega
  · rcases ho with e | ⟨b', e, hb'⟩
    · rw [e] at hb; exact h.ap b hb q
    · rw [e] at hb; cases hb
      obtain ⟨l, hr⟩ := h.f.row q
      have := hr.lt
      omega
  · by_cases e : i < kn
    · obtain ⟨u', a, b⟩ := h.sn i e
      exact ⟨u', by rw [List.getElem?_append_left (by rw [h.ln]; exact e)]; exact a, b⟩
    · have : i = kn := by omega
      subst this
      exact ⟨u, by rw [List.getElem?_append_right (by rw [h.ln]; exact Nat.le_refl _), h.ln, Nat.sub_self]; rfl, hu⟩
/-- a sector as it was flushed -/
theorem Vm.addF {u : Value} (h : Vm Q w0 w t2 t3 s kv kd kn kf o1 o2 o3 dv nv fv ns fs) (hu : SecV Q w0 u (some (s.flu kf))) (hk : Kp (fun b => o3 = some b) w w1) (hs : Sl oneV 1 w1 29 o3' fv' (fs ++ [u])) (ho : o3' = o3 ∨ ∃ b, o3' = some b ∧ w.heap.size ≤ b) {R : World → Prop}
    (hR : ∀ w', Vm Q w0 w' t2 t3 s kv kd kn (kf + 1) o1 o2 o3' dv nv fv' ns (fs ++ [u]) → R w') : st1 (P t3 12) fv' R w1 := by
  have tn : ∀ {t b l}, Row w b t l → t ≠ 29 → ¬ o3 = some b := fun hr ht => tag_ne h.f hr ht
  have r31 := hk.row h.r3 (tn h.r3 (by decide))
  refine st1_r r31 (show 12 < 13 by decide) (sl_scal hs) fun w2 r32 hk2 hz2 => ?_
  have t3n : ∀ {t b l}, Row w1 b t l → t ≠ 45 → ¬ b = t3 := fun hr ht q => row_ne hr r31 ht q
  have sz := h.kp.size
  have hn1 : Sl oneV 1 w1 29 o2 nv ns := h.n.kp hk (fun b hb q => h.ap b hb q)
  refine hR w2 ⟨(h.kp.then hk (fun b hb q => by have := h.q3 b q; omega)).then hk2 (fun b hb (q : b = t3) => by have := h.f3; omega), hk2.row (hk.row h.r2 (tn h.r2 (by decide))) h.ne, r32, h.ne, h.f2, h.f3, (h.d.kp hk (fun b hb => by obtain ⟨l, hr⟩ := h.d.row hb; exact tn hr (by decide))).kp hk2 (fun b hb => ?_), hn1.kp hk2 (fun b hb => by obtain ⟨l, hr⟩ := hn1.row hb; exact t3n hr (by decide)), hs.kp hk2 (fun b hb => by obtain ⟨l, hr⟩ := hs.row hb; exact t3n hr (by decide)), h.q1, h.q2, fun b hb => ?_, fun b hb q => ?_, h.ln, by rw [List.length_append, h.lf]; rfl, h.sn, fun i hi => ?_⟩
  · obtain ⟨l, hr⟩ := h.d.row hb
    exact t3n (hk.row hr (tn hr (by decide))) (by decide)
  · rcases ho with e | ⟨b', e, hb'⟩
    · rw [e] at hb; exact h.q3 b hb
    · rw [e] at hb; cases hb; omega
  · rcases ho with e | ⟨b', e, hb'⟩
    · rw [e] at q; exact h.ap b hb q
    · rw [e] at q; cases q
      obtain ⟨l, hr⟩ := h.n.row hb
      have := hr.lt
      omega
  · by_cases e : i < kf
    · obtain ⟨u', a, b⟩ := h.sf i e
      exact ⟨u', by rw [List.getElem?_append_left (by rw [h.lf]; exact e)]; exact a, b⟩
    · have : i = kf := by omega
      subst this
      exact ⟨u, by rw [List.getElem?_append_right (by rw [h.lf]; exact Nat.le_refl _), h.lf, Nat.sub_self]; rfl, hu⟩

/-- append of one slice of bytes, in two steps -/
theorem app29 {xs : List Value} {ob : Option Nat} {u : Value} {B : World → Prop} (h : Sl oneV 1 w 29 ob v xs) (hu : ∃ a n c, u = .slice (some a) n c) (hl : xs.length ≤ 12) (hB : ∀ w', Kp (fun _ => False) w w' → B w')
    (hK : ∀ w' v' ob', Sl oneV 1 w' 29 ob' v' (xs ++ [u]) → Kp (fun b => ob = some b) w w' → (ob' = ob ∨ ∃ b, ob' = some b ∧ w.heap.size ≤ b) → K v' w') :
    bsq 29 [nilS] 1 [(some (0, 1), u)] (fun t w => B w ∧ apq 29 [nilS] 24 v t K w) w := by
  obtain ⟨a, n, c, rfl⟩ := hu
  refine bsq_r (l := [.slice (some a) n c]) rfl fun w1 r1 hk1 hz1 => ⟨hB w1 hk1, ?_⟩
  have h2 : Sl oneV 1 w1 29 (some w.heap.size) (.slice (some ⟨w.heap.size, 0, none⟩) 1 1) [.slice (some a) n c] := ⟨1, [], rfl, by simp, by simp, by simpa [rows, oneV] using r1⟩
  refine Sl.app2 oneV_len rfl (fun y hy => ?_) (h.kp' hk1) h2 (by simp; omega) (by simp; omega) fun w2 v2 o2 hs hk2 ho => ?_
  · simp at hy; subst hy; rfl
  · refine hK w2 v2 o2 hs (hk1.none.trans hk2) ?_
    rcases ho with e | ⟨b, e, hb⟩
    · exact .inl e
    · exact .inr ⟨b, e, by omega⟩

theorem secL_of {xs : List Value} {ob : Option Nat} {H : Nat → List Int} (h : Sl oneV 1 w 29 ob v xs) (hl : xs.length = 12) (hs : ∀ i, i < 12 → ∃ u, xs[i]? = some u ∧ SecV (fun _ => False) w u (some (H i))) : SecL (fun _ => False) w v H := by
  cases ob with
  | none => obtain ⟨_, e⟩ := h; rw [e] at hl; simp at hl
  | some b =>
    obtain ⟨cap, junk, e1, e2, e3, e4⟩ := h
    rw [rows_oneV] at e4
    refine ⟨b, cap, xs ++ junk, by rw [e1, hl], by omega, e4, fun q => q, fun i hi => ?_⟩
    obtain ⟨u, a, b⟩ := hs i hi
    exact ⟨u, by rw [List.getElem?_append_left (by omega)]; exact a, b⟩

/-- what reads as of now, known by the world the view began in -/
theorem now_ok' {fl fr : List Value} (h : Md Q w mb fl fr kv F G s') (h0 : Md Q w0 mb fl fr kv s.flu s.fr s) (hk : k < 12) (hK : ∀ u, SecV Q w0 u (some (nowS s k)) → K u w) : cl Try.prog 50 #[P mb 0, I (k : Nat)] K w := by
  apply c50
  unfold s50_p1
  simp only [e_fd, e_nck, e_pkt, e_pkf, e_gdtt, e_gdtf, e_gdft, e_gdff, e_ift, e_iff, e_not, e_ln, e_lnT, e_cp, e_cvi, e_ex20, e_ex21, e_ex30, e_ex31, e_ex32, e_add, e_sub, e_mul, e_quo, e_rem, e_and, e_or, e_xor, e_shl, e_shr, e_eql, e_neq, e_lss, e_leq, e_gtr, e_geq, e_beq, e_bne, e_peq1, e_peq2, e_pne1, e_pne2, e_zeq1, e_zeq2, e_zne1, e_zne2, e_feq1, e_fne1, e_feq2, e_fne2, e_seq, e_sne, e_ta1, e_ta2, Nat.zero_add, Nat.add_zero, Bool.not_true, Bool.not_false]
  refine ix12 hk ?_
  obtain ⟨ug, hg1, hg2⟩ := h0.new k hk
  refine ld1_r h.row (v := ug) (by rw [mg2 h.l1 h.l2 hk]; exact hg1) ?_
  cases hg : s.fr k with
  | none =>
    rw [hg] at hg2
    rw [hg2.nl]
    simp only [e_fd, e_nck, e_pkt, e_pkf, e_gdtt, e_gdtf, e_gdft, e_gdff, e_ift, e_iff, e_not, e_ln, e_lnT, e_cp, e_cvi, e_ex20, e_ex21, e_ex30, e_ex31, e_ex32, e_add, e_sub, e_mul, e_quo, e_rem, e_and, e_or, e_xor, e_shl, e_shr, e_eql, e_neq, e_lss, e_leq, e_gtr, e_geq, e_beq, e_bne, e_peq1, e_peq2, e_pne1, e_pne2, e_zeq1, e_zeq2, e_zne1, e_zne2, e_feq1, e_fne1, e_feq2, e_fne2, e_seq, e_sne, e_ta1, e_ta2, Nat.zero_add, Nat.add_zero, Bool.not_true, Bool.not_false]
    refine ix0 hk ?_
    obtain ⟨uf, hf1, hf2⟩ := h0.old k hk
    refine ld1_r h.row (v := uf) (by rw [mg1 h.l1 hk]; exact hf1) ?_
    exact hK uf (by unfold nowS; rw [hg]; exact hf2)
  | some x =>
    rw [hg] at hg2
    obtain ⟨a, n, c, e⟩ := hg2.nn
    rw [e]
    simp only [e_fd, e_nck, e_pkt, e_pkf, e_gdtt, e_gdtf, e_gdft, e_gdff, e_ift, e_iff, e_not, e_ln, e_lnT, e_cp, e_cvi, e_ex20, e_ex21, e_ex30, e_ex31, e_ex32, e_add, e_sub, e_mul, e_quo, e_rem, e_and, e_or, e_xor, e_shl, e_shr, e_eql, e_neq, e_lss, e_leq, e_gtr, e_geq, e_beq, e_bne, e_peq1, e_peq2, e_pne1, e_pne2, e_zeq1, e_zeq2, e_zne1, e_zne2, e_feq1, e_fne1, e_feq2, e_fne2, e_seq, e_sne, e_ta1, e_ta2, Nat.zero_add, Nat.add_zero, Bool.not_true, Bool.not_false]
    refine ix12 hk ?_
    refine ld1_r h.row (v := ug) (by rw [mg2 h.l1 h.l2 hk]; exact hg1) ?_
    exact hK ug (by unfold nowS; rw [hg]; exact hg2)

theorem lookModel_ok (h : Mo Q w mb s) (hkl : s.keep.length ≤ 65536) (hK : ∀ w' v, Kp (fun _ => False) w w' → Vw (fun _ => False) w' v s → K v w') : cl Try.prog 19 #[P mb 0] K w := by
  obtain ⟨fl, fr, kv, h⟩ := h
  apply c19
  unfold s19_p10
  refine nw_r fun w1 r1 hk1 hz1 => ?_
  unfold s19_p9 s19_p9_d
  simp only [e_fd, e_nck, e_pkt, e_pkf, e_gdtt, e_gdtf, e_gdft, e_gdff, e_ift, e_iff, e_not, e_ln, e_lnT, e_cp, e_cvi, e_ex20, e_ex21, e_ex30, e_ex31, e_ex32, e_add, e_sub, e_mul, e_quo, e_rem, e_and, e_or, e_xor, e_shl, e_shr, e_eql, e_neq, e_lss, e_leq, e_gtr, e_geq, e_beq, e_bne, e_peq1, e_peq2, e_pne1, e_pne2, e_zeq1, e_zeq2, e_zne1, e_zne2, e_feq1, e_fne1, e_feq2, e_fne2, e_seq, e_sne, e_ta1, e_ta2, Nat.zero_add, Nat.add_zero, Bool.not_true, Bool.not_false]
  have hkd : Kp (fun _ => False) w (drw w1) := hk1.trans kp_drw
  have hd := h.kp' hkd
  have hs1 : (drw w1).heap.size = w.heap.size + 1 := hz1
  refine hd.ldT 0 rfl rfl ?_
  refine hd.ldT 1 rfl rfl ?_
  have hlen : (fl ++ (fr ++ mt kv s)).length = 34 := by simp [hd.l1, hd.l2, mt]
  have e3 : ∀ k n, ((fl ++ (fr ++ mt kv s)).drop (24 + k)).take n = ((mt kv s).drop k).take n := by
    intro k n
    rw [List.drop_append, List.drop_append, hd.l1, hd.l2, List.drop_of_length_le (by rw [hd.l1]; omega), List.drop_of_length_le (by rw [hd.l2]; omega), List.nil_append, List.nil_append, show 24 + k - 12 - 12 = k by omega]
  refine ldn_r hd.row (show 26 + 3 ≤ _ by rw [hlen]; decide) ?_
  rw [e3 2 3]
  refine ldn_r hd.row (show 29 + 5 ≤ _ by rw [hlen]; decide) ?_
  rw [e3 5 5]
  refine bdq_r rfl ?_
  refine nw_r fun w2 r2 hk2 hz2 => ⟨hk2.below', ?_⟩
  refine stn_r r2 rfl (show 0 + 13 ≤ 13 by decide) (show ([.bool s.off, I s.left, kv, I s.torn, I s.at_, nilS, I s.rd, I s.wr, I s.fl, I s.cr, I s.rs, nilS, nilS] : List Value).all scal = true by simp only [List.all_cons, h.kvp.sc]; rfl) fun w3 r3 hk3 hz3 => ?_
  have hk03 : Kp (fun _ => False) w w3 := (hkd.trans hk2).then hk3 (fun k hk (q : k = _) => by omega)
  have r13 := hk3.row (hk2.row' r1.drw) (fun (q : _ = _) => by omega)
  unfold s19_p8
  refine ⟨fun n l w' => ∃ (k : Nat) (o1 o2 o3 : Option Nat) (dv nv fv : Value) (ns fs : List Value), k ≤ 12 ∧ n = 12 - k ∧ l = [P mb 0, P w.heap.size 0, P (drw w1).heap.size 0, I k] ∧ Vm Q w w' w.heap.size (drw w1).heap.size s kv k k k o1 o2 o3 dv nv fv ns fs,
    12, ⟨0, none, none, none, nilS, nilS, nilS, [], [], by omega, by omega, rfl, ⟨hk03, r13, r3, by omega, Nat.le_refl _, by omega, ⟨rfl, rfl⟩, ⟨rfl, rfl⟩, ⟨rfl, rfl⟩, fun b q => (by cases q), fun b q => (by cases q), fun b q => (by cases q), fun b q => (by cases q), rfl, rfl, fun i hi => by omega, fun i hi => by omega⟩⟩, ?_⟩
  rintro n l w4 ⟨k, o1, o2, o3, dv, nv, fv, ns, fs, hk, rfl, rfl, hV⟩
  rw [s19_p7_Fe]
  unfold s19_p6
  simp only [e_fd, e_nck, e_pkt, e_pkf, e_gdtt, e_gdtf, e_gdft, e_gdff, e_ift, e_iff, e_not, e_ln, e_lnT, e_cp, e_cvi, e_ex20, e_ex21, e_ex30, e_ex31, e_ex32, e_add, e_sub, e_mul, e_quo, e_rem, e_and, e_or, e_xor, e_shl, e_shr, e_eql, e_neq, e_lss, e_leq, e_gtr, e_geq, e_beq, e_bne, e_peq1, e_peq2, e_pne1, e_pne2, e_zeq1, e_zeq2, e_zne1, e_zne2, e_feq1, e_fne1, e_feq2, e_fne2, e_seq, e_sne, e_ta1, e_ta2, Nat.zero_add, Nat.add_zero, Bool.not_true, Bool.not_false]
  have h4 := h.kp' hV.kp
  by_cases hlt : k < 12
  · have hlt' : (k : Int) < 12 := by omega
    simp only [hlt', decide_true, e_fd, e_nck, e_pkt, e_pkf, e_gdtt, e_gdtf, e_gdft, e_gdff, e_ift, e_iff, e_not, e_ln, e_lnT, e_cp, e_cvi, e_ex20, e_ex21, e_ex30, e_ex31, e_ex32, e_add, e_sub, e_mul, e_quo, e_rem, e_and, e_or, e_xor, e_shl, e_shr, e_eql, e_neq, e_lss, e_leq, e_gtr, e_geq, e_beq, e_bne, e_peq1, e_peq2, e_pne1, e_pne2, e_zeq1, e_zeq2, e_zne1, e_zne2, e_feq1, e_fne1, e_feq2, e_fne2, e_seq, e_sne, e_ta1, e_ta2, Nat.zero_add, Nat.add_zero, Bool.not_true, Bool.not_false]
    -- the two sectors
    have rest : ∀ w5 o1' dv', Vm Q w w5 w.heap.size (drw w1).heap.size s kv (k + 1) k k o1' o2 o3 dv' nv fv ns fs →
        s19_p4 K (fun l' w' => ∃ n', n' < 12 - k ∧ ∃ (k : Nat) (o1 o2 o3 : Option Nat) (dv nv fv : Value) (ns fs : List Value), k ≤ 12 ∧ n' = 12 - k ∧ l' = [P mb 0, P w.heap.size 0, P (drw w1).heap.size 0, I k] ∧ Vm Q w w' w.heap.size (drw w1).heap.size s kv k k k o1 o2 o3 dv nv fv ns fs) (P mb 0) (P w.heap.size 0) (P (drw w1).heap.size 0) (I k) w5 := by
      intro w5 o1' dv' hV5
      unfold s19_p4 s19_p4_d
      simp only [e_fd, e_nck, e_pkt, e_pkf, e_gdtt, e_gdtf, e_gdft, e_gdff, e_ift, e_iff, e_not, e_ln, e_lnT, e_cp, e_cvi, e_ex20, e_ex21, e_ex30, e_ex31, e_ex32, e_add, e_sub, e_mul, e_quo, e_rem, e_and, e_or, e_xor, e_shl, e_shr, e_eql, e_neq, e_lss, e_leq, e_gtr, e_geq, e_beq, e_bne, e_peq1, e_peq2, e_pne1, e_pne2, e_zeq1, e_zeq2, e_zne1, e_zne2, e_feq1, e_fne1, e_feq2, e_fne2, e_seq, e_sne, e_ta1, e_ta2, Nat.zero_add, Nat.add_zero, Bool.not_true, Bool.not_false]
      have hVd := hV5.kp' (w1 := drw w5) kp_drw
      refine ld1_r hVd.r3 (v := nv) rfl ?_
      refine now_ok' (h.kp' hVd.kp) h hlt fun u hu => ⟨Below.refl _ _, ?_⟩
      refine app29 hVd.n hu.nn (by rw [hVd.ln]; omega) (fun w' hk' => hk'.below') fun w6 nv6 o6 hs6 hk6 ho6 => ?_
      refine hVd.addN hu hk6 hs6 ho6 fun w7 hV7 => ?_
      unfold s19_p3 s19_p3_d
      simp only [e_fd, e_nck, e_pkt, e_pkf, e_gdtt, e_gdtf, e_gdft, e_gdff, e_ift, e_iff, e_not, e_ln, e_lnT, e_cp, e_cvi, e_ex20, e_ex21, e_ex30, e_ex31, e_ex32, e_add, e_sub, e_mul, e_quo, e_rem, e_and, e_or, e_xor, e_shl, e_shr, e_eql, e_neq, e_lss, e_leq, e_gtr, e_geq, e_beq, e_bne, e_peq1, e_peq2, e_pne1, e_pne2, e_zeq1, e_zeq2, e_zne1, e_zne2, e_feq1, e_fne1, e_feq2, e_fne2, e_seq, e_sne, e_ta1, e_ta2, Nat.zero_add, Nat.add_zero, Bool.not_true, Bool.not_false]
      have hVe := hV7.kp' (w1 := drw w7) kp_drw
      refine ld1_r hVe.r3 (v := fv) rfl ?_
      refine ix0 hlt ?_
      obtain ⟨uf, hf1, hf2⟩ := h.old k hlt
      refine ld1_r (h.kp' hVe.kp).row (v := uf) (by rw [mg1 h.l1 hlt]; exact hf1) ?_
      refine app29 hVe.f hf2.nn (by rw [hVe.lf]; omega) (fun w' hk' => hk'.below') fun w8 fv8 o8 hs8 hk8 ho8 => ?_
      refine hVe.addF hf2 hk8 hs8 ho8 fun w9 hV9 => ?_
      unfold s19_p2
      simp only [e_fd, e_nck, e_pkt, e_pkf, e_gdtt, e_gdtf, e_gdft, e_gdff, e_ift, e_iff, e_not, e_ln, e_lnT, e_cp, e_cvi, e_ex20, e_ex21, e_ex30, e_ex31, e_ex32, e_add, e_sub, e_mul, e_quo, e_rem, e_and, e_or, e_xor, e_shl, e_shr, e_eql, e_neq, e_lss, e_leq, e_gtr, e_geq, e_beq, e_bne, e_peq1, e_peq2, e_pne1, e_pne2, e_zeq1, e_zeq2, e_zne1, e_zne2, e_feq1, e_fne1, e_feq2, e_fne2, e_seq, e_sne, e_ta1, e_ta2, Nat.zero_add, Nat.add_zero, Bool.not_true, Bool.not_false]
      rw [wrap64_id (by omega) (by omega)]
      exact ⟨12 - (k + 1), by omega, k + 1, o1', o6, o8, dv', nv6, fv8, _, _, by omega, rfl, by simp, hV9⟩
    unfold s19_p5
    simp only [e_fd, e_nck, e_pkt, e_pkf, e_gdtt, e_gdtf, e_gdft, e_gdff, e_ift, e_iff, e_not, e_ln, e_lnT, e_cp, e_cvi, e_ex20, e_ex21, e_ex30, e_ex31, e_ex32, e_add, e_sub, e_mul, e_quo, e_rem, e_and, e_or, e_xor, e_shl, e_shr, e_eql, e_neq, e_lss, e_leq, e_gtr, e_geq, e_beq, e_bne, e_peq1, e_peq2, e_pne1, e_pne2, e_zeq1, e_zeq2, e_zne1, e_zne2, e_feq1, e_fne1, e_feq2, e_fne2, e_seq, e_sne, e_ta1, e_ta2, Nat.zero_add, Nat.add_zero, Bool.not_true, Bool.not_false]
    refine ix12 hlt ?_
    obtain ⟨ug, hg1, hg2⟩ := h.new k hlt
    refine ld1_r h4.row (v := ug) (by rw [mg2 h.l1 h.l2 hlt]; exact hg1) ?_
    cases hg : s.fr k with
    | none =>
      rw [hg] at hg2
      rw [hg2.nl]
      simp only [e_fd, e_nck, e_pkt, e_pkf, e_gdtt, e_gdtf, e_gdft, e_gdff, e_ift, e_iff, e_not, e_ln, e_lnT, e_cp, e_cvi, e_ex20, e_ex21, e_ex30, e_ex31, e_ex32, e_add, e_sub, e_mul, e_quo, e_rem, e_and, e_or, e_xor, e_shl, e_shr, e_eql, e_neq, e_lss, e_leq, e_gtr, e_geq, e_beq, e_bne, e_peq1, e_peq2, e_pne1, e_pne2, e_zeq1, e_zeq2, e_zne1, e_zne2, e_feq1, e_fne1, e_feq2, e_fne2, e_seq, e_sne, e_ta1, e_ta2, Nat.zero_add, Nat.add_zero, Bool.not_true, Bool.not_false]
      refine rest w4 o1 dv ⟨hV.kp, hV.r2, hV.r3, hV.ne, hV.f2, hV.f3, ?_, hV.n, hV.f, hV.q1, hV.q2, hV.q3, hV.ap, hV.ln, hV.lf, hV.sn, hV.sf⟩
      rw [dirtyK_succ, hg]
      simpa using hV.d
    | some x =>
      rw [hg] at hg2
      obtain ⟨a, nn, c, e⟩ := hg2.nn
      rw [e]
      simp only [e_fd, e_nck, e_pkt, e_pkf, e_gdtt, e_gdtf, e_gdft, e_gdff, e_ift, e_iff, e_not, e_ln, e_lnT, e_cp, e_cvi, e_ex20, e_ex21, e_ex30, e_ex31, e_ex32, e_add, e_sub, e_mul, e_quo, e_rem, e_and, e_or, e_xor, e_shl, e_shr, e_eql, e_neq, e_lss, e_leq, e_gtr, e_geq, e_beq, e_bne, e_peq1, e_peq2, e_pne1, e_pne2, e_zeq1, e_zeq2, e_zne1, e_zne2, e_feq1, e_fne1, e_feq2, e_fne2, e_seq, e_sne, e_ta1, e_ta2, Nat.zero_add, Nat.add_zero, Bool.not_true, Bool.not_false]
      refine ld1_r hV.r3 (v := dv) rfl ?_
      have hdl : (dirtyK s k).length ≤ k := by unfold dirtyK; rw [List.length_map]; exact Nat.le_trans (List.length_filter_le _ _) (by simp)
      refine hV.d.app i1_len rfl ((k : Nat) : Int) rfl (by omega) (by omega) rfl fun w5 dv5 o5 hs5 hk5 ho5 => ?_
      try simp only [e_fd, e_nck, e_pkt, e_pkf, e_gdtt, e_gdtf, e_gdft, e_gdff, e_ift, e_iff, e_not, e_ln, e_lnT, e_cp, e_cvi, e_ex20, e_ex21, e_ex30, e_ex31, e_ex32, e_add, e_sub, e_mul, e_quo, e_rem, e_and, e_or, e_xor, e_shl, e_shr, e_eql, e_neq, e_lss, e_leq, e_gtr, e_geq, e_beq, e_bne, e_peq1, e_peq2, e_pne1, e_pne2, e_zeq1, e_zeq2, e_zne1, e_zne2, e_feq1, e_fne1, e_feq2, e_fne2, e_seq, e_sne, e_ta1, e_ta2, Nat.zero_add, Nat.add_zero, Bool.not_true, Bool.not_false]
      have hs5' : Sl i1 1 w5 3 o5 dv5 (dirtyK s (k + 1)) := by rw [dirtyK_succ, hg]; exact hs5
      refine hV.addD hk5 hs5' ho5 fun w6 hV6 => ?_
      exact rest w6 o5 dv5 hV6
  · have hlt' : ¬ (k : Int) < 12 := by omega
    simp only [hlt', decide_false, e_fd, e_nck, e_pkt, e_pkf, e_gdtt, e_gdtf, e_gdft, e_gdff, e_ift, e_iff, e_not, e_ln, e_lnT, e_cp, e_cvi, e_ex20, e_ex21, e_ex30, e_ex31, e_ex32, e_add, e_sub, e_mul, e_quo, e_rem, e_and, e_or, e_xor, e_shl, e_shr, e_eql, e_neq, e_lss, e_leq, e_gtr, e_geq, e_beq, e_bne, e_peq1, e_peq2, e_pne1, e_pne2, e_zeq1, e_zeq2, e_zne1, e_zne2, e_feq1, e_fne1, e_feq2, e_fne2, e_seq, e_sne, e_ta1, e_ta2, Nat.zero_add, Nat.add_zero, Bool.not_true, Bool.not_false]
    have : k = 12 := by omega
    subst this
    unfold s19_p1
    refine ldn_r hV.r3 (show 0 + 13 ≤ 13 by decide) ?_
    have s1 := sl_scal hV.d
    have s2 := sl_scal hV.n
    have s3 := sl_scal hV.f
    refine stn_r hV.r2 rfl (show 0 + 13 ≤ 13 by decide) (show ([.bool s.off, I s.left, kv, I s.torn, I s.at_, dv, I s.rd, I s.wr, I s.fl, I s.cr, I s.rs, nv, fv] : List Value).all scal = true by simp only [List.all_cons, h.kvp.sc, s1, s2, s3]; rfl) fun w5 r5 hk5 hz5 => ?_
    refine ldn_r r5 (show 0 + 13 ≤ 13 by decide) ?_
    have sz := hV.kp.size
    have hk05 : Kp (fun _ => False) w w5 := hV.kp.then hk5 (fun k hk (q : k = _) => by omega)
    have nt : ∀ {t b l}, Row w4 b t l → t ≠ 45 → ¬ b = w.heap.size := fun hr ht q => row_ne hr hV.r2 ht q
    have d5 : Sl i1 1 w5 3 o1 dv (dirtyK s 12) := hV.d.kp hk5 (fun b hb => by obtain ⟨l, hr⟩ := hV.d.row hb; exact nt hr (by decide))
    have n5 := hV.n.kp hk5 (fun b hb => by obtain ⟨l, hr⟩ := hV.n.row hb; exact nt hr (by decide))
    have f5 := hV.f.kp hk5 (fun b hb => by obtain ⟨l, hr⟩ := hV.f.row hb; exact nt hr (by decide))
    have wk : ∀ {u : Value} {o : Option (List Int)}, SecV Q w u o → SecV (fun _ => False) w5 u o := fun hu => hu.mv' hk05 (fun _ _ _ _ q => q) (fun _ q => q.elim)
    refine hK w5 _ hk05 ⟨kv, dv, nv, fv, rfl, ⟨h.kvp.1.kp' hk05, fun _ _ _ _ _ q => q⟩, slP d5 (by have := dirty_len s; show (dirtyL s).length ≤ _; omega) (fun _ _ q => q), secL_of n5 hV.ln (fun i hi => by obtain ⟨u, a, b⟩ := hV.sn i hi; exact ⟨u, a, wk b⟩), secL_of f5 hV.lf (fun i hi => by obtain ⟨u, a, b⟩ := hV.sf i hi; exact ⟨u, a, wk b⟩)⟩
end
end Go.Proofs.Qxb6500895a
