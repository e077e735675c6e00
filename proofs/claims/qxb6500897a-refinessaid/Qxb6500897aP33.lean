import Derived.Test.Qxb6500897aP32
namespace Go.Proofs.Qxb6500897a
open Go.Sh Go.RowKit
set_option linter.unusedVariables false
set_option linter.unusedSimpArgs false

/-- what the law of dwell keeps -/
structure DwS (W w : World) (d tb cb ab : Nat) (now : Int) (ts : List Tab) (L : List Ent) (ob : Option Nat) (pv : Value) : Prop where
  st : St W w d tb now ts L
  park : ParkAt w cb ab
  sl : Sl pc 3 w 72 ob pv L
  bn : Bnd L
  hob : ∀ b, ob = some b → W.heap.size ≤ b
section
variable {W w w' : World} {d tb cb ab : Nat} {now : Int} {ts : List Tab} {L : List Ent} {ob : Option Nat} {pv : Value} {K : Value → World → Prop} {B1 : List Value → World → Prop} {v ln ii : Value} {o : Op} {b : Nat}
theorem DwS.kp (h : DwS W w d tb cb ab now ts L ob pv) (hk : Kp (fun _ => False) w w') : DwS W w' d tb cb ab now ts L ob pv :=
  ⟨h.st.kp hk, h.park.kp' hk, h.sl.kp' hk, h.bn, h.hob⟩

theorem dwl_round (h : DwS W w d tb cb ab now ts L ob pv) (hL : L.length + 1 ≤ 65536) (hr : Row w b 34 o.cells) 
    (hK : ∀ w' now' ts' L' ob' pv', DwS W w' d tb cb ab now' ts' L' ob' pv' → L'.length ≤ L.length + 1 → s8_p2 K B1 pv' (ptr d) (ptr cb) v ln ii w') :
    cl Try.prog 31 #[ptr d] (fun t31 w => ldn 6 (ptr b) (fun t34 w => cl Try.prog 17 #[ptr d, t34] (fun t35 w => exq t35 0 (fun t36 w => exq t35 1 (fun t37 w =>
      boI .neq t36 (.int .i64 0) (fun t39 w => ifb t39 (s8_p2 K B1 pv (ptr d) (ptr cb) v ln ii w) (fd 0 (ptr b) (fun t40 w => ld1 t40 (fun t41 w => s8_p24 K B1 pv (ptr d) (ptr cb) (ptr b) t31 v ln ii t41 w) w) w)) w) w) w) w) w) w := by
  have n0 := h.st.good.inv.n0
  have n1 := h.st.good.inv.n1
  refine now_ok h.st.tabs.top ?_
  refine ldn_r hr (Nat.le_of_ble_eq_true rfl) ?_
  refine play_st (o := o) h.st fun w1 h1 hb1 => ?_
  have hr1 := h.st.tabs.notP hr (by decide) (by decide) (by decide) hb1
  have hp1 : ParkAt w1 cb ab := ⟨h.st.tabs.notP h.park.top (by decide) (by decide) (by decide) hb1, h.st.tabs.notP h.park.atts (by decide) (by decide) (by decide) hb1⟩
  have hsl1 : Sl pc 3 w1 72 ob pv L := by
    refine h.sl.kp hb1 fun x hx e => ?_
    obtain ⟨l, hrow⟩ := h.sl.row hx
    have := h.st.tabs.not hrow (by decide) (by decide) (by decide)
    rcases e with e | e
    · exact this.1 e
    · exact this.2.2 e
  have hbn1 := h.bn.step h.st.good.inv o
  have hlen := stepL_len now L o
  have hL1 : stepL now L o = L → DwS W w1 d tb cb ab (stepP now ts o).now (stepP now ts o).ts (stepL now L o) ob pv := by
    intro e
    rw [e] at h1 ⊢
    exact ⟨h1, hp1, hsl1, h.bn, h.hob⟩
  have hbW : ∀ x, ob = some x → W.heap.size ≤ x ∧ x ≠ d ∧ x ≠ tb ∧ x ∉ blks (stepP now ts o).ts := by
    intro x hx
    obtain ⟨l, hrow⟩ := hsl1.row hx
    have := h1.tabs.not hrow (by decide) (by decide) (by decide)
    exact ⟨h.hob x hx, this⟩
  -- the party goes onto the list
  have grow : ∀ (w2 : World) (e : Ent) (L1 : List Ent) (v' : Value) (ob' : Option Nat), L1 = L ++ [e] → stepL now L o = L1 → Sl pc 3 w2 72 ob' v' L1 → Kp (fun b => ob = some b) w1 w2 → (ob' = ob ∨ ∃ b, ob' = some b ∧ w1.heap.size ≤ b) →
      DwS W w2 d tb cb ab (stepP now ts o).now (stepP now ts o).ts L1 ob' v' := by
    intro w2 e L1 v' ob' e1 e2 hs2 hk2 hob2
    rw [e2] at h1 hbn1
    refine ⟨h1.kpS hk2 fun x hx => hbW x hx, ⟨hk2.row hp1.top fun q => hsl1.ne hp1.top (by decide) q, hk2.row hp1.atts fun q => hsl1.ne hp1.atts (by decide) q⟩, hs2, hbn1, ?_⟩
    intro x hx
    rcases hob2 with q | ⟨y, q, hy⟩
    · rw [q] at hx; exact h.hob x hx
    · rw [q] at hx
      have : y = x := by simpa using hx
      have := h1.bel.size
      omega
  simp only [e_fd, e_nck, e_pkt, e_pkf, e_gdtt, e_gdtf, e_gdft, e_gdff, e_ift, e_iff, e_not, e_ln, e_lnT, e_cp, e_cvi, e_ex20, e_ex21, e_ex30, e_ex31, e_ex32, e_add, e_sub, e_mul, e_quo, e_rem, e_and, e_or, e_xor, e_shl, e_shr, e_eql, e_neq, e_lss, e_leq, e_gtr, e_geq, e_beq, e_bne, e_peq1, e_peq2, e_pne1, e_pne2, e_zeq1, e_zeq2, e_zne1, e_zne2, e_feq1, e_fne1, e_feq2, e_fne2, e_seq, e_sne, e_ta1, e_ta2, Nat.zero_add, Nat.add_zero, Bool.not_true, Bool.not_false]
  by_cases hcode : (stepP now ts o).code = 0
  · have ec : ((stepP now ts o).code != 0) = false := by simpa using hcode
    simp only [ec, e_fd, e_nck, e_pkt, e_pkf, e_gdtt, e_gdtf, e_gdft, e_gdff, e_ift, e_iff, e_not, e_ln, e_lnT, e_cp, e_cvi, e_ex20, e_ex21, e_ex30, e_ex31, e_ex32, e_add, e_sub, e_mul, e_quo, e_rem, e_and, e_or, e_xor, e_shl, e_shr, e_eql, e_neq, e_lss, e_leq, e_gtr, e_geq, e_beq, e_bne, e_peq1, e_peq2, e_pne1, e_pne2, e_zeq1, e_zeq2, e_zne1, e_zne2, e_feq1, e_fne1, e_feq2, e_fne2, e_seq, e_sne, e_ta1, e_ta2, Nat.zero_add, Nat.add_zero, Bool.not_true, Bool.not_false]
    unfold ptr
    simp only [e_fd, e_nck, e_pkt, e_pkf, e_gdtt, e_gdtf, e_gdft, e_gdff, e_ift, e_iff, e_not, e_ln, e_lnT, e_cp, e_cvi, e_ex20, e_ex21, e_ex30, e_ex31, e_ex32, e_add, e_sub, e_mul, e_quo, e_rem, e_and, e_or, e_xor, e_shl, e_shr, e_eql, e_neq, e_lss, e_leq, e_gtr, e_geq, e_beq, e_bne, e_peq1, e_peq2, e_pne1, e_pne2, e_zeq1, e_zeq2, e_zne1, e_zne2, e_feq1, e_fne1, e_feq2, e_fne2, e_seq, e_sne, e_ta1, e_ta2, Nat.zero_add, Nat.add_zero, Bool.not_true, Bool.not_false]
    refine ld1_r hr1 rfl ?_
    unfold s8_p24
    simp only [e_fd, e_nck, e_pkt, e_pkf, e_gdtt, e_gdtf, e_gdft, e_gdff, e_ift, e_iff, e_not, e_ln, e_lnT, e_cp, e_cvi, e_ex20, e_ex21, e_ex30, e_ex31, e_ex32, e_add, e_sub, e_mul, e_quo, e_rem, e_and, e_or, e_xor, e_shl, e_shr, e_eql, e_neq, e_lss, e_leq, e_gtr, e_geq, e_beq, e_bne, e_peq1, e_peq2, e_pne1, e_pne2, e_zeq1, e_zeq2, e_zne1, e_zne2, e_feq1, e_fne1, e_feq2, e_fne2, e_seq, e_sne, e_ta1, e_ta2, Nat.zero_add, Nat.add_zero, Bool.not_true, Bool.not_false]
    unfold s8_p23
    by_cases k0 : o.kind = 0
    · have e : (o.kind == 0) = true := by simpa using k0
      simp only [e, e_fd, e_nck, e_pkt, e_pkf, e_gdtt, e_gdtf, e_gdft, e_gdff, e_ift, e_iff, e_not, e_ln, e_lnT, e_cp, e_cvi, e_ex20, e_ex21, e_ex30, e_ex31, e_ex32, e_add, e_sub, e_mul, e_quo, e_rem, e_and, e_or, e_xor, e_shl, e_shr, e_eql, e_neq, e_lss, e_leq, e_gtr, e_geq, e_beq, e_bne, e_peq1, e_peq2, e_pne1, e_pne2, e_zeq1, e_zeq2, e_zne1, e_zne2, e_feq1, e_fne1, e_feq2, e_fne2, e_seq, e_sne, e_ta1, e_ta2, Nat.zero_add, Nat.add_zero, Bool.not_true, Bool.not_false]
      unfold s8_p3
      simp only [e_fd, e_nck, e_pkt, e_pkf, e_gdtt, e_gdtf, e_gdft, e_gdff, e_ift, e_iff, e_not, e_ln, e_lnT, e_cp, e_cvi, e_ex20, e_ex21, e_ex30, e_ex31, e_ex32, e_add, e_sub, e_mul, e_quo, e_rem, e_and, e_or, e_xor, e_shl, e_shr, e_eql, e_neq, e_lss, e_leq, e_gtr, e_geq, e_beq, e_bne, e_peq1, e_peq2, e_pne1, e_pne2, e_zeq1, e_zeq2, e_zne1, e_zne2, e_feq1, e_fne1, e_feq2, e_fne2, e_seq, e_sne, e_ta1, e_ta2, Nat.zero_add, Nat.add_zero, Bool.not_true, Bool.not_false]
      have hf : mFits now L o.attr o.slot o.cls o.n = 0 := by
        unfold stepP at hcode
        rw [if_pos k0] at hcode
        rw [← h.st.good.fitsC]; exact hcode
      have hok := mFits_ok hf h.st.good.inv
      have eL : stepL now L o = L ++ [⟨o.attr.toNat, o.slot, o.cls.toNat, o.n⟩] := by unfold stepL; rw [if_pos k0, if_pos hf]
      refine ld1_r hr1 rfl ?_
      refine ld1_r hr1 rfl ?_
      refine ld1_r hr1 rfl ?_
      apply bdq_r rfl
      have ea : ((o.attr.toNat : Nat) : Int) = o.attr := by omega
      have epc : pc ⟨o.attr.toNat, o.slot, o.cls.toNat, o.n⟩ = [I o.attr, I o.slot, I o.n] := by unfold pc; simp only [ea]
      refine hsl1.app pc_length rfl ⟨o.attr.toNat, o.slot, o.cls.toNat, o.n⟩ (by rw [epc]; rfl) (by omega) (by omega) (by rw [epc]; rfl) fun w2 v' ob' hs2 hk2 hob2 => ?_
      exact hK w2 _ _ _ ob' v' (grow w2 _ _ v' ob' rfl eL hs2 hk2 hob2) (by simp)
    · have e : (o.kind == 0) = false := by simpa using k0
      simp only [e, e_fd, e_nck, e_pkt, e_pkf, e_gdtt, e_gdtf, e_gdft, e_gdff, e_ift, e_iff, e_not, e_ln, e_lnT, e_cp, e_cvi, e_ex20, e_ex21, e_ex30, e_ex31, e_ex32, e_add, e_sub, e_mul, e_quo, e_rem, e_and, e_or, e_xor, e_shl, e_shr, e_eql, e_neq, e_lss, e_leq, e_gtr, e_geq, e_beq, e_bne, e_peq1, e_peq2, e_pne1, e_pne2, e_zeq1, e_zeq2, e_zne1, e_zne2, e_feq1, e_fne1, e_feq2, e_fne2, e_seq, e_sne, e_ta1, e_ta2, Nat.zero_add, Nat.add_zero, Bool.not_true, Bool.not_false]
      unfold s8_p22
      simp only [e_fd, e_nck, e_pkt, e_pkf, e_gdtt, e_gdtf, e_gdft, e_gdff, e_ift, e_iff, e_not, e_ln, e_lnT, e_cp, e_cvi, e_ex20, e_ex21, e_ex30, e_ex31, e_ex32, e_add, e_sub, e_mul, e_quo, e_rem, e_and, e_or, e_xor, e_shl, e_shr, e_eql, e_neq, e_lss, e_leq, e_gtr, e_geq, e_beq, e_bne, e_peq1, e_peq2, e_pne1, e_pne2, e_zeq1, e_zeq2, e_zne1, e_zne2, e_feq1, e_fne1, e_feq2, e_fne2, e_seq, e_sne, e_ta1, e_ta2, Nat.zero_add, Nat.add_zero, Bool.not_true, Bool.not_false]
      unfold s8_p21
      by_cases k1 : o.kind = 1
      · have e : (o.kind == 1) = true := by simpa using k1
        simp only [e, e_fd, e_nck, e_pkt, e_pkf, e_gdtt, e_gdtf, e_gdft, e_gdff, e_ift, e_iff, e_not, e_ln, e_lnT, e_cp, e_cvi, e_ex20, e_ex21, e_ex30, e_ex31, e_ex32, e_add, e_sub, e_mul, e_quo, e_rem, e_and, e_or, e_xor, e_shl, e_shr, e_eql, e_neq, e_lss, e_leq, e_gtr, e_geq, e_beq, e_bne, e_peq1, e_peq2, e_pne1, e_pne2, e_zeq1, e_zeq2, e_zne1, e_zne2, e_feq1, e_fne1, e_feq2, e_fne2, e_seq, e_sne, e_ta1, e_ta2, Nat.zero_add, Nat.add_zero, Bool.not_true, Bool.not_false]
        unfold s8_p4
        simp only [e_fd, e_nck, e_pkt, e_pkf, e_gdtt, e_gdtf, e_gdft, e_gdff, e_ift, e_iff, e_not, e_ln, e_lnT, e_cp, e_cvi, e_ex20, e_ex21, e_ex30, e_ex31, e_ex32, e_add, e_sub, e_mul, e_quo, e_rem, e_and, e_or, e_xor, e_shl, e_shr, e_eql, e_neq, e_lss, e_leq, e_gtr, e_geq, e_beq, e_bne, e_peq1, e_peq2, e_pne1, e_pne2, e_zeq1, e_zeq2, e_zne1, e_zne2, e_feq1, e_fne1, e_feq2, e_fne2, e_seq, e_sne, e_ta1, e_ta2, Nat.zero_add, Nat.add_zero, Bool.not_true, Bool.not_false]
        have hf : mRel now L o.attr o.slot o.cls o.n = 0 := by
          unfold stepP at hcode
          rw [if_neg k0, if_pos k1] at hcode
          rw [← h.st.good.relC]; exact hcode
        have hok := mRel_ok hf h.st.good.inv
        have eL : stepL now L o = L ++ [⟨o.attr.toNat, o.slot, o.cls.toNat, -o.n⟩] := by unfold stepL; rw [if_neg k0, if_pos k1, if_pos hf]
        refine ld1_r hr1 rfl ?_
        refine ld1_r hr1 rfl ?_
        refine ld1_r hr1 rfl ?_
        rw [e_neg, wrap64_id (by omega) (by omega), show (0 : Int) - o.n = -o.n by omega]
        apply bdq_r rfl
        have ea : ((o.attr.toNat : Nat) : Int) = o.attr := by omega
        have epc : pc ⟨o.attr.toNat, o.slot, o.cls.toNat, -o.n⟩ = [I o.attr, I o.slot, I (-o.n)] := by unfold pc; simp only [ea]
        refine hsl1.app pc_length rfl ⟨o.attr.toNat, o.slot, o.cls.toNat, -o.n⟩ (by rw [epc]; rfl) (by omega) (by omega) (by rw [epc]; rfl) fun w2 v' ob' hs2 hk2 hob2 => ?_
        exact hK w2 _ _ _ ob' v' (grow w2 _ _ v' ob' rfl eL hs2 hk2 hob2) (by simp)
      · have e : (o.kind == 1) = false := by simpa using k1
        simp only [e, e_fd, e_nck, e_pkt, e_pkf, e_gdtt, e_gdtf, e_gdft, e_gdff, e_ift, e_iff, e_not, e_ln, e_lnT, e_cp, e_cvi, e_ex20, e_ex21, e_ex30, e_ex31, e_ex32, e_add, e_sub, e_mul, e_quo, e_rem, e_and, e_or, e_xor, e_shl, e_shr, e_eql, e_neq, e_lss, e_leq, e_gtr, e_geq, e_beq, e_bne, e_peq1, e_peq2, e_pne1, e_pne2, e_zeq1, e_zeq2, e_zne1, e_zne2, e_feq1, e_fne1, e_feq2, e_fne2, e_seq, e_sne, e_ta1, e_ta2, Nat.zero_add, Nat.add_zero, Bool.not_true, Bool.not_false]
        have eL : stepL now L o = L := by unfold stepL; rw [if_neg k0, if_neg k1]
        have hS := hL1 eL
        unfold s8_p20
        simp only [e_fd, e_nck, e_pkt, e_pkf, e_gdtt, e_gdtf, e_gdft, e_gdff, e_ift, e_iff, e_not, e_ln, e_lnT, e_cp, e_cvi, e_ex20, e_ex21, e_ex30, e_ex31, e_ex32, e_add, e_sub, e_mul, e_quo, e_rem, e_and, e_or, e_xor, e_shl, e_shr, e_eql, e_neq, e_lss, e_leq, e_gtr, e_geq, e_beq, e_bne, e_peq1, e_peq2, e_pne1, e_pne2, e_zeq1, e_zeq2, e_zne1, e_zne2, e_feq1, e_fne1, e_feq2, e_fne2, e_seq, e_sne, e_ta1, e_ta2, Nat.zero_add, Nat.add_zero, Bool.not_true, Bool.not_false]
        unfold s8_p19
        by_cases k2 : o.kind = 2
        · have e : (o.kind == 2) = true := by simpa using k2
          simp only [e, e_fd, e_nck, e_pkt, e_pkf, e_gdtt, e_gdtf, e_gdft, e_gdff, e_ift, e_iff, e_not, e_ln, e_lnT, e_cp, e_cvi, e_ex20, e_ex21, e_ex30, e_ex31, e_ex32, e_add, e_sub, e_mul, e_quo, e_rem, e_and, e_or, e_xor, e_shl, e_shr, e_eql, e_neq, e_lss, e_leq, e_gtr, e_geq, e_beq, e_bne, e_peq1, e_peq2, e_pne1, e_pne2, e_zeq1, e_zeq2, e_zne1, e_zne2, e_feq1, e_fne1, e_feq2, e_fne2, e_seq, e_sne, e_ta1, e_ta2, Nat.zero_add, Nat.add_zero, Bool.not_true, Bool.not_false]
          unfold s8_p18
          simp only [e_fd, e_nck, e_pkt, e_pkf, e_gdtt, e_gdtf, e_gdft, e_gdff, e_ift, e_iff, e_not, e_ln, e_lnT, e_cp, e_cvi, e_ex20, e_ex21, e_ex30, e_ex31, e_ex32, e_add, e_sub, e_mul, e_quo, e_rem, e_and, e_or, e_xor, e_shl, e_shr, e_eql, e_neq, e_lss, e_leq, e_gtr, e_geq, e_beq, e_bne, e_peq1, e_peq2, e_pne1, e_pne2, e_zeq1, e_zeq2, e_zne1, e_zne2, e_feq1, e_fne1, e_feq2, e_fne2, e_seq, e_sne, e_ta1, e_ta2, Nat.zero_add, Nat.add_zero, Bool.not_true, Bool.not_false]
          refine ld1_r hS.park.top rfl ?_
          simp only [e_fd, e_nck, e_pkt, e_pkf, e_gdtt, e_gdtf, e_gdft, e_gdff, e_ift, e_iff, e_not, e_ln, e_lnT, e_cp, e_cvi, e_ex20, e_ex21, e_ex30, e_ex31, e_ex32, e_add, e_sub, e_mul, e_quo, e_rem, e_and, e_or, e_xor, e_shl, e_shr, e_eql, e_neq, e_lss, e_leq, e_gtr, e_geq, e_beq, e_bne, e_peq1, e_peq2, e_pne1, e_pne2, e_zeq1, e_zeq2, e_zne1, e_zne2, e_feq1, e_fne1, e_feq2, e_fne2, e_seq, e_sne, e_ta1, e_ta2, Nat.zero_add, Nat.add_zero, Bool.not_true, Bool.not_false]
          rw [eL] at hS hlen
          refine dwl_atts hS.st hS.park hS.sl hS.bn (by omega) ⟨n0, n1⟩ (Kp.refl _ _) fun w2 hw2 => ?_
          exact hK _ _ _ _ _ _ (hS.kp hw2) (by omega)
        · have e : (o.kind == 2) = false := by simpa using k2
          simp only [e, e_fd, e_nck, e_pkt, e_pkf, e_gdtt, e_gdtf, e_gdft, e_gdff, e_ift, e_iff, e_not, e_ln, e_lnT, e_cp, e_cvi, e_ex20, e_ex21, e_ex30, e_ex31, e_ex32, e_add, e_sub, e_mul, e_quo, e_rem, e_and, e_or, e_xor, e_shl, e_shr, e_eql, e_neq, e_lss, e_leq, e_gtr, e_geq, e_beq, e_bne, e_peq1, e_peq2, e_pne1, e_pne2, e_zeq1, e_zeq2, e_zne1, e_zne2, e_feq1, e_fne1, e_feq2, e_fne2, e_seq, e_sne, e_ta1, e_ta2, Nat.zero_add, Nat.add_zero, Bool.not_true, Bool.not_false]
          exact hK _ _ _ _ _ _ hS hlen
  · have ec : ((stepP now ts o).code != 0) = true := by simpa using hcode
    simp only [ec, e_fd, e_nck, e_pkt, e_pkf, e_gdtt, e_gdtf, e_gdft, e_gdff, e_ift, e_iff, e_not, e_ln, e_lnT, e_cp, e_cvi, e_ex20, e_ex21, e_ex30, e_ex31, e_ex32, e_add, e_sub, e_mul, e_quo, e_rem, e_and, e_or, e_xor, e_shl, e_shr, e_eql, e_neq, e_lss, e_leq, e_gtr, e_geq, e_beq, e_bne, e_peq1, e_peq2, e_pne1, e_pne2, e_zeq1, e_zeq2, e_zne1, e_zne2, e_feq1, e_fne1, e_feq2, e_fne2, e_seq, e_sne, e_ta1, e_ta2, Nat.zero_add, Nat.add_zero, Bool.not_true, Bool.not_false]
    exact hK _ _ _ _ _ _ (hL1 (h.st.good.refused o hcode)) hlen
end

theorem dw_law {W : World} {v : Value} {ops : List Op} (hs : Scr W v ops) : cl Try.prog 8 #[v] (fun r w' => r = .bool true ∧ Below W.heap.size W w') W := by
  apply c8
  unfold s8_p28
  refine small_ok hs ?_
  simp only [e_fd, e_nck, e_pkt, e_pkf, e_gdtt, e_gdtf, e_gdft, e_gdff, e_ift, e_iff, e_not, e_ln, e_lnT, e_cp, e_cvi, e_ex20, e_ex21, e_ex30, e_ex31, e_ex32, e_add, e_sub, e_mul, e_quo, e_rem, e_and, e_or, e_xor, e_shl, e_shr, e_eql, e_neq, e_lss, e_leq, e_gtr, e_geq, e_beq, e_bne, e_peq1, e_peq2, e_pne1, e_pne2, e_zeq1, e_zeq2, e_zne1, e_zne2, e_feq1, e_fne1, e_feq2, e_fne2, e_seq, e_sne, e_ta1, e_ta2, Nat.zero_add, Nat.add_zero, Bool.not_true, Bool.not_false]
  by_cases hsm : ops.length ≤ 65536
  · rw [decide_eq_true hsm]
    simp only [Bool.not_true, e_fd, e_nck, e_pkt, e_pkf, e_gdtt, e_gdtf, e_gdft, e_gdff, e_ift, e_iff, e_not, e_ln, e_lnT, e_cp, e_cvi, e_ex20, e_ex21, e_ex30, e_ex31, e_ex32, e_add, e_sub, e_mul, e_quo, e_rem, e_and, e_or, e_xor, e_shl, e_shr, e_eql, e_neq, e_lss, e_leq, e_gtr, e_geq, e_beq, e_bne, e_peq1, e_peq2, e_pne1, e_pne2, e_zeq1, e_zeq2, e_zne1, e_zne2, e_feq1, e_fne1, e_feq2, e_fne2, e_seq, e_sne, e_ta1, e_ta2, Nat.zero_add, Nat.add_zero, Bool.not_true, Bool.not_false]
    refine fresh_st fun w0 d tb ts0 h0 hk0 hd0 => ?_
    refine park_ok fun w1 ab hab r1 hb1 => ?_
    refine nw_r fun w2 r2 hb2 hz2 => ?_
    refine stn_r r2 rfl (Nat.le_of_ble_eq_true rfl) rfl fun w3 r3 hb3 hz3 => ?_
    replace r3 : Row w3 w1.heap.size 30 [I 6, I 90, .slice (some ⟨ab, 0, none⟩) 4 4] := r3
    have k3 : Kp (fun _ => False) w1 w3 := hb2.then hb3 (by intro k hk (e : k = _); omega)
    have hS0 : DwS W w3 d tb w1.heap.size ab 0 ts0 [] none (.slice none 0 0) := ⟨(h0.kp hb1).kp k3, ⟨r3, k3.row' r1⟩, ⟨rfl, rfl⟩, by intro e he; simp at he, by simp⟩
    refine hs.ln ?_
    generalize hcb : w1.heap.size = cb at *
    refine ⟨fun m l w => ∃ (i : Nat) (now : Int) (ts : List Tab) (L : List Ent) (ob : Option Nat) (pv : Value), i ≤ ops.length ∧ m = ops.length - i ∧ L.length ≤ i ∧ l = [pv, ptr d, ptr cb, v, I ops.length, I i] ∧ DwS W w d tb cb ab now ts L ob pv,
      ops.length, ⟨0, 0, ts0, [], none, _, by omega, by omega, by simp, rfl, hS0⟩, ?_⟩
    rintro m l w ⟨i, now, ts, L, ob, pv, hi, hm, hLi, rfl, h⟩
    rw [s8_p27_Fe]
    unfold s8_p26
    simp only [e_fd, e_nck, e_pkt, e_pkf, e_gdtt, e_gdtf, e_gdft, e_gdff, e_ift, e_iff, e_not, e_ln, e_lnT, e_cp, e_cvi, e_ex20, e_ex21, e_ex30, e_ex31, e_ex32, e_add, e_sub, e_mul, e_quo, e_rem, e_and, e_or, e_xor, e_shl, e_shr, e_eql, e_neq, e_lss, e_leq, e_gtr, e_geq, e_beq, e_bne, e_peq1, e_peq2, e_pne1, e_pne2, e_zeq1, e_zeq2, e_zne1, e_zne2, e_feq1, e_fne1, e_feq2, e_fne2, e_seq, e_sne, e_ta1, e_ta2, Nat.zero_add, Nat.add_zero, Bool.not_true, Bool.not_false]
    by_cases hlt : i < ops.length
    · have hlt' : (i : Int) < (ops.length : Int) := by omega
      simp only [hlt', decide_true, e_fd, e_nck, e_pkt, e_pkf, e_gdtt, e_gdtf, e_gdft, e_gdff, e_ift, e_iff, e_not, e_ln, e_lnT, e_cp, e_cvi, e_ex20, e_ex21, e_ex30, e_ex31, e_ex32, e_add, e_sub, e_mul, e_quo, e_rem, e_and, e_or, e_xor, e_shl, e_shr, e_eql, e_neq, e_lss, e_leq, e_gtr, e_geq, e_beq, e_bne, e_peq1, e_peq2, e_pne1, e_pne2, e_zeq1, e_zeq2, e_zne1, e_zne2, e_feq1, e_fne1, e_feq2, e_fne2, e_seq, e_sne, e_ta1, e_ta2, Nat.zero_add, Nat.add_zero, Bool.not_true, Bool.not_false]
      unfold s8_p25
      refine hs.take h.st.bel hlt fun w1 b r1 hb1 hbb => ?_
      refine dwl_round (o := ops[i]) (h.kp hb1) (by omega) r1 fun w' now' ts' L' ob' pv' h' hl' => ?_
      unfold s8_p2
      simp only [e_fd, e_nck, e_pkt, e_pkf, e_gdtt, e_gdtf, e_gdft, e_gdff, e_ift, e_iff, e_not, e_ln, e_lnT, e_cp, e_cvi, e_ex20, e_ex21, e_ex30, e_ex31, e_ex32, e_add, e_sub, e_mul, e_quo, e_rem, e_and, e_or, e_xor, e_shl, e_shr, e_eql, e_neq, e_lss, e_leq, e_gtr, e_geq, e_beq, e_bne, e_peq1, e_peq2, e_pne1, e_pne2, e_zeq1, e_zeq2, e_zne1, e_zne2, e_feq1, e_fne1, e_feq2, e_fne2, e_seq, e_sne, e_ta1, e_ta2, Nat.zero_add, Nat.add_zero, Bool.not_true, Bool.not_false]
      rw [wrap64_id (by omega) (by omega)]
      exact ⟨ops.length - (i + 1), by omega, i + 1, now', ts', L', ob', pv', by omega, rfl, by omega, by simp, h'⟩
    · have hlt' : ¬ (i : Int) < (ops.length : Int) := by omega
      simp only [hlt', decide_false, e_fd, e_nck, e_pkt, e_pkf, e_gdtt, e_gdtf, e_gdft, e_gdff, e_ift, e_iff, e_not, e_ln, e_lnT, e_cp, e_cvi, e_ex20, e_ex21, e_ex30, e_ex31, e_ex32, e_add, e_sub, e_mul, e_quo, e_rem, e_and, e_or, e_xor, e_shl, e_shr, e_eql, e_neq, e_lss, e_leq, e_gtr, e_geq, e_beq, e_bne, e_peq1, e_peq2, e_pne1, e_pne2, e_zeq1, e_zeq2, e_zne1, e_zne2, e_feq1, e_fne1, e_feq2, e_fne2, e_seq, e_sne, e_ta1, e_ta2, Nat.zero_add, Nat.add_zero, Bool.not_true, Bool.not_false]
      unfold s8_p1
      exact ⟨rfl, h.st.bel⟩
  · rw [decide_eq_false hsm]
    simp only [Bool.not_false, e_fd, e_nck, e_pkt, e_pkf, e_gdtt, e_gdtf, e_gdft, e_gdff, e_ift, e_iff, e_not, e_ln, e_lnT, e_cp, e_cvi, e_ex20, e_ex21, e_ex30, e_ex31, e_ex32, e_add, e_sub, e_mul, e_quo, e_rem, e_and, e_or, e_xor, e_shl, e_shr, e_eql, e_neq, e_lss, e_leq, e_gtr, e_geq, e_beq, e_bne, e_peq1, e_peq2, e_pne1, e_pne2, e_zeq1, e_zeq2, e_zne1, e_zne2, e_feq1, e_fne1, e_feq2, e_fne2, e_seq, e_sne, e_ta1, e_ta2, Nat.zero_add, Nat.add_zero, Bool.not_true, Bool.not_false]
    exact ⟨trivial, Below.refl _ _⟩

theorem dw_walk {W : World} {v : Value} {ops : List Op} (hs : Scr W v ops) : Calls Try.prog 8 #[v] W fun e w' => e = .returned (.bool true) ∧ Below W.heap.size W w' :=
  Calls.mono (dw_law hs) fun e w' ⟨v, he, hv, hb⟩ => ⟨by rw [he, hv], hb⟩
end Go.Proofs.Qxb6500897a
