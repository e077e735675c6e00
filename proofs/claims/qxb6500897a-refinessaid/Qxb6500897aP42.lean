import Derived.Test.Qxb6500897aP41
namespace Go.Proofs.Qxb6500897a
open Go.Sh Go.RowKit
set_option linter.unusedVariables false
set_option linter.unusedSimpArgs false

section
variable {W w0 w : World} {d tb : Nat} {now now' : Int} {L : List Ent} {K : Value → World → Prop} {B1 B2 B3 : List Value → World → Prop} {t3 t25 t26 t27 : Value}
  {fob : Option Nat} {fv : Value} {sob : Option Nat} {sv : Value} {its : List It} {lo vb : Nat} {fob' : Option Nat} {fv' : Value} {sob' : Option Nat} {sv' : Value} {its' : List It} {lo' vb' : Nat}

theorem adv_row {a : Nat} (n0 : 0 ≤ now) (n1 : now' ≤ 90) (hnn : now ≤ now') (hi : Inv now L) (hV : VP w0 fob fv sob sv (vwOf now L).first its lo) (hcs : (vwOf now L).slots = its.map (·.cs)) (rv : Row w0 vb 43 [.bool true, I now, fv, sv])
    (hV' : VP w0 fob' fv' sob' sv' (vwOf now' L).first its' lo') (hcs' : (vwOf now' L).slots = its'.map (·.cs)) (rv' : Row w0 vb' 43 [.bool true, I now', fv', sv']) (ha : a < 4) (hai : a < its'.length) (hw : Kp (fun _ => False) w0 w)
    (hK : ∀ w', Kp (fun _ => False) w0 w' → s7_p3 K B1 B2 t3 (ptr vb) (ptr vb') t25 t26 t27 (I 4) (I a) w') :
    s7_p9 K B1 B2 t3 (ptr vb) (ptr vb') (I a) t25 t26 t27 (I 4) (I a) its'[a].rv (I (rlen a)) (I 0) w := by
  obtain ⟨hil, hrows⟩ := its_row hcs'
  have hrl1 := rlen_le a
  have hlen : its'[a].cs.length = rlen a := by rw [hrows a hai]; unfold rowOf; rw [rowTo_length]
  refine ⟨fun m l w => ∃ i : Nat, i ≤ rlen a ∧ m = rlen a - i ∧ l = [t3, ptr vb, ptr vb', I a, t25, t26, t27, I 4, I a, its'[a].rv, I (rlen a), I i] ∧ Kp (fun _ => False) w0 w,
    rlen a, ⟨0, by omega, by omega, rfl, hw⟩, ?_⟩
  rintro m l w ⟨i, hi', hm, rfl, hw⟩
  rw [s7_p9_Fe]
  unfold s7_p8
  simp only [e_fd, e_nck, e_pkt, e_pkf, e_gdtt, e_gdtf, e_gdft, e_gdff, e_ift, e_iff, e_not, e_ln, e_lnT, e_cp, e_cvi, e_ex20, e_ex21, e_ex30, e_ex31, e_ex32, e_add, e_sub, e_mul, e_quo, e_rem, e_and, e_or, e_xor, e_shl, e_shr, e_eql, e_neq, e_lss, e_leq, e_gtr, e_geq, e_beq, e_bne, e_peq1, e_peq2, e_pne1, e_pne2, e_zeq1, e_zeq2, e_zne1, e_zne2, e_feq1, e_fne1, e_feq2, e_fne2, e_seq, e_sne, e_ta1, e_ta2, Nat.zero_add, Nat.add_zero, Bool.not_true, Bool.not_false]
  by_cases hlt : i < rlen a
  · have hlt' : (i : Int) < ((rlen a : Nat) : Int) := by omega
    simp only [hlt', decide_true, e_fd, e_nck, e_pkt, e_pkf, e_gdtt, e_gdtf, e_gdft, e_gdff, e_ift, e_iff, e_not, e_ln, e_lnT, e_cp, e_cvi, e_ex20, e_ex21, e_ex30, e_ex31, e_ex32, e_add, e_sub, e_mul, e_quo, e_rem, e_and, e_or, e_xor, e_shl, e_shr, e_eql, e_neq, e_lss, e_leq, e_gtr, e_geq, e_beq, e_bne, e_peq1, e_peq2, e_pne1, e_pne2, e_zeq1, e_zeq2, e_zne1, e_zne2, e_feq1, e_fne1, e_feq2, e_fne2, e_seq, e_sne, e_ta1, e_ta2, Nat.zero_add, Nat.add_zero, Bool.not_true, Bool.not_false]
    unfold s7_p7
    have hlc : i < its'[a].cs.length := by omega
    have ec : its'[a].cs[i] = ctrOf L a (fst1 now' a + (i : Nat)) := by
      have : (rowOf now' L a)[i]? = some (ctrOf L a (fst1 now' a + (i : Nat))) := by
        unfold rowOf rowTo
        rw [List.getElem?_map, List.getElem?_range (by omega)]; rfl
      rw [← hrows a hai, List.getElem?_eq_getElem hlc] at this
      simpa using this
    refine ((hV'.kp hw).r _ (List.getElem_mem hai)).read Ctr.cells_length hlc ?_
    rw [ec]
    refine nw_r fun w1 r1 hb1 hz1 => ?_
    refine stn_r r1 rfl (Nat.le_of_ble_eq_true rfl) rfl fun w2 r2 hb2 hz2 => ?_
    have k2 : Kp (fun _ => False) w0 w2 := hw.trans (hb1.then hb2 (by intro k hk (e : k = _); omega))
    refine adv_slot n0 n1 hnn hi hV hcs rv hV' hcs' rv' ha hlt r2 k2 fun w3 hk3 => ?_
    unfold s7_p4
    simp only [e_fd, e_nck, e_pkt, e_pkf, e_gdtt, e_gdtf, e_gdft, e_gdff, e_ift, e_iff, e_not, e_ln, e_lnT, e_cp, e_cvi, e_ex20, e_ex21, e_ex30, e_ex31, e_ex32, e_add, e_sub, e_mul, e_quo, e_rem, e_and, e_or, e_xor, e_shl, e_shr, e_eql, e_neq, e_lss, e_leq, e_gtr, e_geq, e_beq, e_bne, e_peq1, e_peq2, e_pne1, e_pne2, e_zeq1, e_zeq2, e_zne1, e_zne2, e_feq1, e_fne1, e_feq2, e_fne2, e_seq, e_sne, e_ta1, e_ta2, Nat.zero_add, Nat.add_zero, Bool.not_true, Bool.not_false]
    rw [wrap64_id (by omega) (by omega)]
    exact ⟨rlen a - (i + 1), by omega, i + 1, by omega, rfl, by simp [ptr], hk3⟩
  · have hlt' : ¬ (i : Int) < ((rlen a : Nat) : Int) := by omega
    simp only [hlt', decide_false, e_fd, e_nck, e_pkt, e_pkf, e_gdtt, e_gdtf, e_gdft, e_gdff, e_ift, e_iff, e_not, e_ln, e_lnT, e_cp, e_cvi, e_ex20, e_ex21, e_ex30, e_ex31, e_ex32, e_add, e_sub, e_mul, e_quo, e_rem, e_and, e_or, e_xor, e_shl, e_shr, e_eql, e_neq, e_lss, e_leq, e_gtr, e_geq, e_beq, e_bne, e_peq1, e_peq2, e_pne1, e_pne2, e_zeq1, e_zeq2, e_zne1, e_zne2, e_feq1, e_fne1, e_feq2, e_fne2, e_seq, e_sne, e_ta1, e_ta2, Nat.zero_add, Nat.add_zero, Bool.not_true, Bool.not_false]
    exact hK w hw

theorem adv_rows (n0 : 0 ≤ now) (n1 : now' ≤ 90) (hnn : now ≤ now') (hi : Inv now L) (hV : VP w0 fob fv sob sv (vwOf now L).first its lo) (hcs : (vwOf now L).slots = its.map (·.cs)) (rv : Row w0 vb 43 [.bool true, I now, fv, sv])
    (hV' : VP w0 fob' fv' sob' sv' (vwOf now' L).first its' lo') (hcs' : (vwOf now' L).slots = its'.map (·.cs)) (rv' : Row w0 vb' 43 [.bool true, I now', fv', sv']) (hw : Kp (fun _ => False) w0 w)
    (hK : ∀ w', Kp (fun _ => False) w0 w' → s7_p2 K B1 t3 t25 t26 t27 w') :
    s7_p12 K B1 t3 (ptr vb) (ptr vb') t25 t26 t27 (I 4) (I 0) w := by
  obtain ⟨hil, hrows⟩ := its_row hcs'
  refine ⟨fun m l w => ∃ a : Nat, a ≤ 4 ∧ m = 4 - a ∧ l = [t3, ptr vb, ptr vb', t25, t26, t27, I 4, I a] ∧ Kp (fun _ => False) w0 w,
    4, ⟨0, by omega, by omega, rfl, hw⟩, ?_⟩
  rintro m l w ⟨a, ha, hm, rfl, hw⟩
  rw [s7_p12_Fe]
  unfold s7_p11
  simp only [e_fd, e_nck, e_pkt, e_pkf, e_gdtt, e_gdtf, e_gdft, e_gdff, e_ift, e_iff, e_not, e_ln, e_lnT, e_cp, e_cvi, e_ex20, e_ex21, e_ex30, e_ex31, e_ex32, e_add, e_sub, e_mul, e_quo, e_rem, e_and, e_or, e_xor, e_shl, e_shr, e_eql, e_neq, e_lss, e_leq, e_gtr, e_geq, e_beq, e_bne, e_peq1, e_peq2, e_pne1, e_pne2, e_zeq1, e_zeq2, e_zne1, e_zne2, e_feq1, e_fne1, e_feq2, e_fne2, e_seq, e_sne, e_ta1, e_ta2, Nat.zero_add, Nat.add_zero, Bool.not_true, Bool.not_false]
  by_cases hlt : a < 4
  · have hlt' : (a : Int) < 4 := by omega
    simp only [hlt', decide_true, e_fd, e_nck, e_pkt, e_pkf, e_gdtt, e_gdtf, e_gdft, e_gdff, e_ift, e_iff, e_not, e_ln, e_lnT, e_cp, e_cvi, e_ex20, e_ex21, e_ex30, e_ex31, e_ex32, e_add, e_sub, e_mul, e_quo, e_rem, e_and, e_or, e_xor, e_shl, e_shr, e_eql, e_neq, e_lss, e_leq, e_gtr, e_geq, e_beq, e_bne, e_peq1, e_peq2, e_pne1, e_pne2, e_zeq1, e_zeq2, e_zne1, e_zne2, e_feq1, e_fne1, e_feq2, e_fne2, e_seq, e_sne, e_ta1, e_ta2, Nat.zero_add, Nat.add_zero, Bool.not_true, Bool.not_false]
    have hai : a < its'.length := by omega
    have hlen : its'[a].cs.length = rlen a := by rw [hrows a hai]; unfold rowOf; rw [rowTo_length]
    unfold s7_p10 ptr
    simp only [e_fd, e_nck, e_pkt, e_pkf, e_gdtt, e_gdtf, e_gdft, e_gdff, e_ift, e_iff, e_not, e_ln, e_lnT, e_cp, e_cvi, e_ex20, e_ex21, e_ex30, e_ex31, e_ex32, e_add, e_sub, e_mul, e_quo, e_rem, e_and, e_or, e_xor, e_shl, e_shr, e_eql, e_neq, e_lss, e_leq, e_gtr, e_geq, e_beq, e_bne, e_peq1, e_peq2, e_pne1, e_pne2, e_zeq1, e_zeq2, e_zne1, e_zne2, e_feq1, e_fne1, e_feq2, e_fne2, e_seq, e_sne, e_ta1, e_ta2, Nat.zero_add, Nat.add_zero, Bool.not_true, Bool.not_false]
    refine ld1_r (hw.row' rv') rfl ?_
    refine ix1 (g := It.rv) (fun _ => rfl) (hV'.kp hw).s hai fun b l _ hr hg => ?_
    refine ld1_r hr hg ?_
    refine ((hV'.kp hw).r _ (List.getElem_mem hai)).ln ?_
    rw [hlen]
    refine adv_row n0 n1 hnn hi hV hcs rv hV' hcs' rv' hlt hai hw fun w2 hk2 => ?_
    unfold s7_p3
    simp only [e_fd, e_nck, e_pkt, e_pkf, e_gdtt, e_gdtf, e_gdft, e_gdff, e_ift, e_iff, e_not, e_ln, e_lnT, e_cp, e_cvi, e_ex20, e_ex21, e_ex30, e_ex31, e_ex32, e_add, e_sub, e_mul, e_quo, e_rem, e_and, e_or, e_xor, e_shl, e_shr, e_eql, e_neq, e_lss, e_leq, e_gtr, e_geq, e_beq, e_bne, e_peq1, e_peq2, e_pne1, e_pne2, e_zeq1, e_zeq2, e_zne1, e_zne2, e_feq1, e_fne1, e_feq2, e_fne2, e_seq, e_sne, e_ta1, e_ta2, Nat.zero_add, Nat.add_zero, Bool.not_true, Bool.not_false]
    rw [wrap64_id (by omega) (by omega)]
    exact ⟨4 - (a + 1), by omega, a + 1, by omega, rfl, by simp [ptr], hk2⟩
  · have hlt' : ¬ (a : Int) < 4 := by omega
    simp only [hlt', decide_false, e_fd, e_nck, e_pkt, e_pkf, e_gdtt, e_gdtf, e_gdft, e_gdff, e_ift, e_iff, e_not, e_ln, e_lnT, e_cp, e_cvi, e_ex20, e_ex21, e_ex30, e_ex31, e_ex32, e_add, e_sub, e_mul, e_quo, e_rem, e_and, e_or, e_xor, e_shl, e_shr, e_eql, e_neq, e_lss, e_leq, e_gtr, e_geq, e_beq, e_bne, e_peq1, e_peq2, e_pne1, e_pne2, e_zeq1, e_zeq2, e_zne1, e_zne2, e_feq1, e_fne1, e_feq2, e_fne2, e_seq, e_sne, e_ta1, e_ta2, Nat.zero_add, Nat.add_zero, Bool.not_true, Bool.not_false]
    exact hK w hw
end

section
variable {W w : World} {d tb b : Nat} {now : Int} {ts : List Tab} {L : List Ent} {K : Value → World → Prop} {B1 : List Value → World → Prop} {v ln : Value}
theorem adv_round {ops : List Op} {i : Nat} (hs : Scr W v ops) (hlt : i < ops.length) (h0 : St W w d tb now ts L)
    (hK : ∀ w' now' ts' L', St W w' d tb now' ts' L' → s7_p2 K B1 (ptr d) v ln (I i) w') : s7_p20 K B1 (ptr d) v ln (I i) w := by
  unfold s7_p20
  refine hs.take h0.bel hlt fun w1 b hr hb1 hbb => ?_
  have h1 := h0.kp hb1
  have hwf := hs.1 _ (List.getElem_mem hlt)
  generalize hgo : ops[i] = o at *
  refine look_ok h1 fun w2 val hv2 hk2 => ?_
  obtain ⟨fob, fv, sob, sv, its, rfl, hV, hcs⟩ := hv2
  refine view_st hV.scal fun w3 vb rv3 hk3 hvb => ?_
  replace rv3 : Row w3 vb 43 [.bool true, I now, fv, sv] := rv3
  have h3 := (h1.kp hk2).kp hk3
  have hr3 := hk3.row' (hk2.row' hr)
  have hV3 := hV.kp hk3
  refine ldn_r hr3 (Nat.le_of_ble_eq_true rfl) ?_
  refine play_st (o := o) h3 fun w4 h4 hk4 => ?_
  have hr4 := h3.tabs.notP hr3 (by decide) (by decide) (by decide) hk4
  have rv4 := h3.tabs.notP rv3 (by decide) (by decide) (by decide) hk4
  have hlt1 := h1.lt
  have hV4 : VP w4 fob fv sob sv _ its w1.heap.size := hV3.kpS hk4 fun k e => .inl (by rcases e with e | e; rw [e]; exact hlt1.1; exact hlt1.2 k e)
  simp only [e_fd, e_nck, e_pkt, e_pkf, e_gdtt, e_gdtf, e_gdft, e_gdff, e_ift, e_iff, e_not, e_ln, e_lnT, e_cp, e_cvi, e_ex20, e_ex21, e_ex30, e_ex31, e_ex32, e_add, e_sub, e_mul, e_quo, e_rem, e_and, e_or, e_xor, e_shl, e_shr, e_eql, e_neq, e_lss, e_leq, e_gtr, e_geq, e_beq, e_bne, e_peq1, e_peq2, e_pne1, e_pne2, e_zeq1, e_zeq2, e_zne1, e_zne2, e_feq1, e_fne1, e_feq2, e_fne2, e_seq, e_sne, e_ta1, e_ta2, Nat.zero_add, Nat.add_zero, Bool.not_true, Bool.not_false]
  refine look_ok h4 fun w5 val5 hv5 hk5 => ?_
  obtain ⟨fob', fv', sob', sv', its', rfl, hV', hcs'⟩ := hv5
  refine view_st hV'.scal fun w6 vb' rv6 hk6 hvb' => ?_
  replace rv6 : Row w6 vb' 43 [.bool true, I (stepP now ts o).now, fv', sv'] := rv6
  have h6 := (h4.kp hk5).kp hk6
  have hV6 := (hV4.kp hk5).kp hk6
  have hV6' := hV'.kp hk6
  have rvo6 := hk6.row' (hk5.row' rv4)
  have hr6 := hk6.row' (hk5.row' hr4)
  obtain ⟨hil, hrows⟩ := its_row hcs'
  simp only [e_fd, e_nck, e_pkt, e_pkf, e_gdtt, e_gdtf, e_gdft, e_gdff, e_ift, e_iff, e_not, e_ln, e_lnT, e_cp, e_cvi, e_ex20, e_ex21, e_ex30, e_ex31, e_ex32, e_add, e_sub, e_mul, e_quo, e_rem, e_and, e_or, e_xor, e_shl, e_shr, e_eql, e_neq, e_lss, e_leq, e_gtr, e_geq, e_beq, e_bne, e_peq1, e_peq2, e_pne1, e_pne2, e_zeq1, e_zeq2, e_zne1, e_zne2, e_feq1, e_fne1, e_feq2, e_fne2, e_seq, e_sne, e_ta1, e_ta2, Nat.zero_add, Nat.add_zero, Bool.not_true, Bool.not_false]
  refine ld1_r rv6 rfl ?_
  refine hV6'.s.ln ?_
  rw [hil]
  refine adv_apart h6 hV6' hcs' rv6 (Kp.refl _ _) fun w7 hk7 => ?_
  have h7 := h6.kp hk7
  unfold s7_p13 ptr
  simp only [e_fd, e_nck, e_pkt, e_pkf, e_gdtt, e_gdtf, e_gdft, e_gdff, e_ift, e_iff, e_not, e_ln, e_lnT, e_cp, e_cvi, e_ex20, e_ex21, e_ex30, e_ex31, e_ex32, e_add, e_sub, e_mul, e_quo, e_rem, e_and, e_or, e_xor, e_shl, e_shr, e_eql, e_neq, e_lss, e_leq, e_gtr, e_geq, e_beq, e_bne, e_peq1, e_peq2, e_pne1, e_pne2, e_zeq1, e_zeq2, e_zne1, e_zne2, e_feq1, e_fne1, e_feq2, e_fne2, e_seq, e_sne, e_ta1, e_ta2, Nat.zero_add, Nat.add_zero, Bool.not_true, Bool.not_false]
  refine ld1_r (hk7.row' hr6) rfl ?_
  simp only [e_fd, e_nck, e_pkt, e_pkf, e_gdtt, e_gdtf, e_gdft, e_gdff, e_ift, e_iff, e_not, e_ln, e_lnT, e_cp, e_cvi, e_ex20, e_ex21, e_ex30, e_ex31, e_ex32, e_add, e_sub, e_mul, e_quo, e_rem, e_and, e_or, e_xor, e_shl, e_shr, e_eql, e_neq, e_lss, e_leq, e_gtr, e_geq, e_beq, e_bne, e_peq1, e_peq2, e_pne1, e_pne2, e_zeq1, e_zeq2, e_zne1, e_zne2, e_feq1, e_fne1, e_feq2, e_fne2, e_seq, e_sne, e_ta1, e_ta2, Nat.zero_add, Nat.add_zero, Bool.not_true, Bool.not_false]
  have n0 := h3.good.inv.n0
  have n1 := h3.good.inv.n1
  by_cases k2 : o.kind = 2
  · have e : (o.kind != 2) = false := by simpa using k2
    simp only [e, e_fd, e_nck, e_pkt, e_pkf, e_gdtt, e_gdtf, e_gdft, e_gdff, e_ift, e_iff, e_not, e_ln, e_lnT, e_cp, e_cvi, e_ex20, e_ex21, e_ex30, e_ex31, e_ex32, e_add, e_sub, e_mul, e_quo, e_rem, e_and, e_or, e_xor, e_shl, e_shr, e_eql, e_neq, e_lss, e_leq, e_gtr, e_geq, e_beq, e_bne, e_peq1, e_peq2, e_pne1, e_pne2, e_zeq1, e_zeq2, e_zne1, e_zne2, e_feq1, e_fne1, e_feq2, e_fne2, e_seq, e_sne, e_ta1, e_ta2, Nat.zero_add, Nat.add_zero, Bool.not_true, Bool.not_false]
    by_cases hc : (stepP now ts o).code = 0
    · have ec : ((stepP now ts o).code != 0) = false := by simpa using hc
      simp only [ec, e_fd, e_nck, e_pkt, e_pkf, e_gdtt, e_gdtf, e_gdft, e_gdff, e_ift, e_iff, e_not, e_ln, e_lnT, e_cp, e_cvi, e_ex20, e_ex21, e_ex30, e_ex31, e_ex32, e_add, e_sub, e_mul, e_quo, e_rem, e_and, e_or, e_xor, e_shl, e_shr, e_eql, e_neq, e_lss, e_leq, e_gtr, e_geq, e_beq, e_bne, e_peq1, e_peq2, e_pne1, e_pne2, e_zeq1, e_zeq2, e_zne1, e_zne2, e_feq1, e_fne1, e_feq2, e_fne2, e_seq, e_sne, e_ta1, e_ta2, Nat.zero_add, Nat.add_zero, Bool.not_true, Bool.not_false]
      have es : stepP now ts o = ⟨advNow now o.n, advTs now ts o.n, advC now o.n, 0⟩ := by unfold stepP; rw [if_neg (by omega), if_neg (by omega), if_pos k2]
      have eL : stepL now L o = L := by unfold stepL; rw [if_neg (by omega), if_neg (by omega)]
      have hadv : advC now o.n = 0 := by rw [es] at hc; exact hc
      have hn : 0 ≤ o.n ∧ o.n ≤ 90 - now := by
        unfold advC at hadv
        split at hadv
        · omega
        split at hadv
        · omega
        omega
      have en : (stepP now ts o).now = now + o.n := by rw [es]; show advNow now o.n = _; unfold advNow; rw [if_pos hadv]
      rw [en, eL] at hV6' hcs'
      rw [en] at rv6
      refine ld1_r (hk7.row' rv6) rfl ?_
      refine ld1_r (hk7.row' rvo6) rfl ?_
      refine ld1_r (hk7.row' hr6) rfl ?_
      simp only [e_fd, e_nck, e_pkt, e_pkf, e_gdtt, e_gdtf, e_gdft, e_gdff, e_ift, e_iff, e_not, e_ln, e_lnT, e_cp, e_cvi, e_ex20, e_ex21, e_ex30, e_ex31, e_ex32, e_add, e_sub, e_mul, e_quo, e_rem, e_and, e_or, e_xor, e_shl, e_shr, e_eql, e_neq, e_lss, e_leq, e_gtr, e_geq, e_beq, e_bne, e_peq1, e_peq2, e_pne1, e_pne2, e_zeq1, e_zeq2, e_zne1, e_zne2, e_feq1, e_fne1, e_feq2, e_fne2, e_seq, e_sne, e_ta1, e_ta2, Nat.zero_add, Nat.add_zero, Bool.not_true, Bool.not_false]
      rw [wrap64_id (by omega) (by omega)]
      have ene : (now + o.n != now + o.n) = false := by simp
      simp only [ene, e_fd, e_nck, e_pkt, e_pkf, e_gdtt, e_gdtf, e_gdft, e_gdff, e_ift, e_iff, e_not, e_ln, e_lnT, e_cp, e_cvi, e_ex20, e_ex21, e_ex30, e_ex31, e_ex32, e_add, e_sub, e_mul, e_quo, e_rem, e_and, e_or, e_xor, e_shl, e_shr, e_eql, e_neq, e_lss, e_leq, e_gtr, e_geq, e_beq, e_bne, e_peq1, e_peq2, e_pne1, e_pne2, e_zeq1, e_zeq2, e_zne1, e_zne2, e_feq1, e_fne1, e_feq2, e_fne2, e_seq, e_sne, e_ta1, e_ta2, Nat.zero_add, Nat.add_zero, Bool.not_true, Bool.not_false]
      refine ld1_r (hk7.row' rv6) rfl ?_
      refine (hV6'.kp hk7).s.ln ?_
      rw [hil]
      refine adv_rows n0 (by omega) (by omega) h3.good.inv (hV6.kp hk7) hcs (hk7.row' rvo6) (hV6'.kp hk7) hcs' (hk7.row' rv6) (Kp.refl _ _) fun w8 hk8 => ?_
      exact hK _ _ _ _ (h7.kp hk8)
    · have ec : ((stepP now ts o).code != 0) = true := by simpa using hc
      simp only [ec, e_fd, e_nck, e_pkt, e_pkf, e_gdtt, e_gdtf, e_gdft, e_gdff, e_ift, e_iff, e_not, e_ln, e_lnT, e_cp, e_cvi, e_ex20, e_ex21, e_ex30, e_ex31, e_ex32, e_add, e_sub, e_mul, e_quo, e_rem, e_and, e_or, e_xor, e_shl, e_shr, e_eql, e_neq, e_lss, e_leq, e_gtr, e_geq, e_beq, e_bne, e_peq1, e_peq2, e_pne1, e_pne2, e_zeq1, e_zeq2, e_zne1, e_zne2, e_feq1, e_fne1, e_feq2, e_fne2, e_seq, e_sne, e_ta1, e_ta2, Nat.zero_add, Nat.add_zero, Bool.not_true, Bool.not_false]
      exact hK _ _ _ _ h7
  · have e : (o.kind != 2) = true := by simpa using k2
    simp only [e, e_fd, e_nck, e_pkt, e_pkf, e_gdtt, e_gdtf, e_gdft, e_gdff, e_ift, e_iff, e_not, e_ln, e_lnT, e_cp, e_cvi, e_ex20, e_ex21, e_ex30, e_ex31, e_ex32, e_add, e_sub, e_mul, e_quo, e_rem, e_and, e_or, e_xor, e_shl, e_shr, e_eql, e_neq, e_lss, e_leq, e_gtr, e_geq, e_beq, e_bne, e_peq1, e_peq2, e_pne1, e_pne2, e_zeq1, e_zeq2, e_zne1, e_zne2, e_feq1, e_fne1, e_feq2, e_fne2, e_seq, e_sne, e_ta1, e_ta2, Nat.zero_add, Nat.add_zero, Bool.not_true, Bool.not_false]
    exact hK _ _ _ _ h7
end

theorem adv_law {W : World} {v : Value} {ops : List Op} (hs : Scr W v ops) : cl Try.prog 7 #[v] (fun r w' => r = .bool true ∧ Below W.heap.size W w') W := by
  apply c7
  unfold s7_p23
  refine small_ok hs ?_
  simp only [e_fd, e_nck, e_pkt, e_pkf, e_gdtt, e_gdtf, e_gdft, e_gdff, e_ift, e_iff, e_not, e_ln, e_lnT, e_cp, e_cvi, e_ex20, e_ex21, e_ex30, e_ex31, e_ex32, e_add, e_sub, e_mul, e_quo, e_rem, e_and, e_or, e_xor, e_shl, e_shr, e_eql, e_neq, e_lss, e_leq, e_gtr, e_geq, e_beq, e_bne, e_peq1, e_peq2, e_pne1, e_pne2, e_zeq1, e_zeq2, e_zne1, e_zne2, e_feq1, e_fne1, e_feq2, e_fne2, e_seq, e_sne, e_ta1, e_ta2, Nat.zero_add, Nat.add_zero, Bool.not_true, Bool.not_false]
  by_cases hsm : ops.length ≤ 65536
  · rw [decide_eq_true hsm]
    simp only [Bool.not_true, e_fd, e_nck, e_pkt, e_pkf, e_gdtt, e_gdtf, e_gdft, e_gdff, e_ift, e_iff, e_not, e_ln, e_lnT, e_cp, e_cvi, e_ex20, e_ex21, e_ex30, e_ex31, e_ex32, e_add, e_sub, e_mul, e_quo, e_rem, e_and, e_or, e_xor, e_shl, e_shr, e_eql, e_neq, e_lss, e_leq, e_gtr, e_geq, e_beq, e_bne, e_peq1, e_peq2, e_pne1, e_pne2, e_zeq1, e_zeq2, e_zne1, e_zne2, e_feq1, e_fne1, e_feq2, e_fne2, e_seq, e_sne, e_ta1, e_ta2, Nat.zero_add, Nat.add_zero, Bool.not_true, Bool.not_false]
    refine fresh_st fun w0 d tb ts0 h0 hk0 hd0 => ?_
    refine hs.ln ?_
    refine ⟨fun m l w => ∃ (i : Nat) (now : Int) (ts : List Tab) (L : List Ent), i ≤ ops.length ∧ m = ops.length - i ∧ l = [ptr d, v, I ops.length, I i] ∧ St W w d tb now ts L,
      ops.length, ⟨0, 0, ts0, [], by omega, by omega, rfl, h0⟩, ?_⟩
    rintro m l w ⟨i, now, ts, L, hi, hm, rfl, h⟩
    rw [s7_p22_Fe]
    unfold s7_p21
    simp only [e_fd, e_nck, e_pkt, e_pkf, e_gdtt, e_gdtf, e_gdft, e_gdff, e_ift, e_iff, e_not, e_ln, e_lnT, e_cp, e_cvi, e_ex20, e_ex21, e_ex30, e_ex31, e_ex32, e_add, e_sub, e_mul, e_quo, e_rem, e_and, e_or, e_xor, e_shl, e_shr, e_eql, e_neq, e_lss, e_leq, e_gtr, e_geq, e_beq, e_bne, e_peq1, e_peq2, e_pne1, e_pne2, e_zeq1, e_zeq2, e_zne1, e_zne2, e_feq1, e_fne1, e_feq2, e_fne2, e_seq, e_sne, e_ta1, e_ta2, Nat.zero_add, Nat.add_zero, Bool.not_true, Bool.not_false]
    by_cases hlt : i < ops.length
    · have hlt' : (i : Int) < (ops.length : Int) := by omega
      simp only [hlt', decide_true, e_fd, e_nck, e_pkt, e_pkf, e_gdtt, e_gdtf, e_gdft, e_gdff, e_ift, e_iff, e_not, e_ln, e_lnT, e_cp, e_cvi, e_ex20, e_ex21, e_ex30, e_ex31, e_ex32, e_add, e_sub, e_mul, e_quo, e_rem, e_and, e_or, e_xor, e_shl, e_shr, e_eql, e_neq, e_lss, e_leq, e_gtr, e_geq, e_beq, e_bne, e_peq1, e_peq2, e_pne1, e_pne2, e_zeq1, e_zeq2, e_zne1, e_zne2, e_feq1, e_fne1, e_feq2, e_fne2, e_seq, e_sne, e_ta1, e_ta2, Nat.zero_add, Nat.add_zero, Bool.not_true, Bool.not_false]
      refine adv_round hs hlt h fun w' now' ts' L' h' => ?_
      unfold s7_p2
      simp only [e_fd, e_nck, e_pkt, e_pkf, e_gdtt, e_gdtf, e_gdft, e_gdff, e_ift, e_iff, e_not, e_ln, e_lnT, e_cp, e_cvi, e_ex20, e_ex21, e_ex30, e_ex31, e_ex32, e_add, e_sub, e_mul, e_quo, e_rem, e_and, e_or, e_xor, e_shl, e_shr, e_eql, e_neq, e_lss, e_leq, e_gtr, e_geq, e_beq, e_bne, e_peq1, e_peq2, e_pne1, e_pne2, e_zeq1, e_zeq2, e_zne1, e_zne2, e_feq1, e_fne1, e_feq2, e_fne2, e_seq, e_sne, e_ta1, e_ta2, Nat.zero_add, Nat.add_zero, Bool.not_true, Bool.not_false]
      rw [wrap64_id (by omega) (by omega)]
      exact ⟨ops.length - (i + 1), by omega, i + 1, now', ts', L', by omega, rfl, by simp, h'⟩
    · have hlt' : ¬ (i : Int) < (ops.length : Int) := by omega
      simp only [hlt', decide_false, e_fd, e_nck, e_pkt, e_pkf, e_gdtt, e_gdtf, e_gdft, e_gdff, e_ift, e_iff, e_not, e_ln, e_lnT, e_cp, e_cvi, e_ex20, e_ex21, e_ex30, e_ex31, e_ex32, e_add, e_sub, e_mul, e_quo, e_rem, e_and, e_or, e_xor, e_shl, e_shr, e_eql, e_neq, e_lss, e_leq, e_gtr, e_geq, e_beq, e_bne, e_peq1, e_peq2, e_pne1, e_pne2, e_zeq1, e_zeq2, e_zne1, e_zne2, e_feq1, e_fne1, e_feq2, e_fne2, e_seq, e_sne, e_ta1, e_ta2, Nat.zero_add, Nat.add_zero, Bool.not_true, Bool.not_false]
      unfold s7_p1
      exact ⟨rfl, h.bel⟩
  · rw [decide_eq_false hsm]
    simp only [Bool.not_false, e_fd, e_nck, e_pkt, e_pkf, e_gdtt, e_gdtf, e_gdft, e_gdff, e_ift, e_iff, e_not, e_ln, e_lnT, e_cp, e_cvi, e_ex20, e_ex21, e_ex30, e_ex31, e_ex32, e_add, e_sub, e_mul, e_quo, e_rem, e_and, e_or, e_xor, e_shl, e_shr, e_eql, e_neq, e_lss, e_leq, e_gtr, e_geq, e_beq, e_bne, e_peq1, e_peq2, e_pne1, e_pne2, e_zeq1, e_zeq2, e_zne1, e_zne2, e_feq1, e_fne1, e_feq2, e_fne2, e_seq, e_sne, e_ta1, e_ta2, Nat.zero_add, Nat.add_zero, Bool.not_true, Bool.not_false]
    exact ⟨trivial, Below.refl _ _⟩

theorem adv_walk {W : World} {v : Value} {ops : List Op} (hs : Scr W v ops) : Calls Try.prog 7 #[v] W fun e w' => e = .returned (.bool true) ∧ Below W.heap.size W w' :=
  Calls.mono (adv_law hs) fun e w' ⟨v, he, hv, hb⟩ => ⟨by rw [he, hv], hb⟩
end Go.Proofs.Qxb6500897a
