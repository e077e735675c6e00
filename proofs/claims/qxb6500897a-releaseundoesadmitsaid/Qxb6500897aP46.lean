import Derived.Test.Qxb6500897aP45
namespace Go.Proofs.Qxb6500897a
open Go.Sh Go.RowKit
set_option linter.unusedVariables false
set_option linter.unusedSimpArgs false

section
variable {W w0 w : World} {d tb b : Nat} {now : Int} {ts : List Tab} {L L' : List Ent} {o : Op} {K : Value → World → Prop} {B1 : List Value → World → Prop} {v ln ii : Value}
  {fob : Option Nat} {fv : Value} {sob : Option Nat} {sv : Value} {its : List It} {lo vb : Nat}

theorem adm_att {a c : Nat} (h : St W w0 d tb now ts L') (rv : Row w0 vb 43 [.bool true, I now, fv, sv]) (hV : VP w0 fob fv sob sv (vwOf now L).first its lo) (hcs : (vwOf now L).slots = its.map (·.cs)) (hr : Row w0 b 34 o.cells) (hin : Inv now L)
    (ea : o.attr = (a : Int)) (ec : o.cls = (c : Int)) (hck : chkP now o.attr o.slot o.cls o.n 0 = 0) (ho : o.Wf)
    (hlo : W.heap.size ≤ lo) (hlt : ∀ k, k = d ∨ k = tb ∨ k ∈ blks ts → k < lo)
    (hL' : L' = if mFits now L o.attr o.slot o.cls o.n = 0 then L ++ [⟨o.attr.toNat, o.slot, o.cls.toNat, o.n⟩] else L) (hw : Kp (fun _ => False) w0 w)
    (hK : ∀ w', St W w' d tb now ts L' → s5_p2 K B1 (ptr d) v ln ii w') : s5_p13 K B1 (ptr d) (ptr b) (ptr vb) (I (mFits now L o.attr o.slot o.cls o.n)) (.bool true) v ln ii w := by
  have hk := chkP_iff.1 hck
  have ha : a < 4 := by omega
  have hal : a < parkA.length := ha
  have hea : o.cells[1]? = some (I a) := by show some (I o.attr) = _; rw [ea]
  have hwd : Kp (fun _ => False) w0 (drw w) := hw.trans kp_drw
  have st : ∀ w' c10, Row w' c10 59 [I 0, I 0, I 0, I 0, I 0] → Kp (fun _ => False) (drw w) w' → (drw w).heap.size ≤ c10 →
      stn 5 (.pointer (some ⟨c10, 0, none⟩)) (.agg (pa a).cells.toArray) (fun w => s5_p12 K B1 (ptr d) (ptr b) (ptr vb) (I (mFits now L o.attr o.slot o.cls o.n)) (.bool true) (.pointer (some ⟨c10, 0, none⟩)) v ln ii w) w' := by
    intro w' c10 r10 hk' hc10
    have hz := hwd.size
    refine stn_r r10 rfl (Nat.le_of_ble_eq_true rfl) rfl fun w2 r2 hb2 hz2 => ?_
    have k2 : Kp (fun _ => False) w0 w2 := (hwd.trans hk').then hb2 (by intro x hx (e : x = c10); omega)
    exact adm_loop (h.kp k2) (k2.row' rv) (hV.kp k2) hcs (k2.row' hr) hin r2 ea ec hck ho hlo hlt hL' (Kp.refl _ _) hK
  have last : ∀ w' pb c10, Row w' pb 59 (rows Att.cells parkA) → Row w' c10 59 [I 0, I 0, I 0, I 0, I 0] → Kp (fun _ => False) (drw w) w' → (drw w).heap.size ≤ c10 →
      ixs 5 (.slice (some ⟨pb, 0, none⟩) 4 4) (I a) (fun t46 w => ldn 5 t46 (fun t47 w => stn 5 (.pointer (some ⟨c10, 0, none⟩)) t47 (fun w => s5_p12 K B1 (ptr d) (ptr b) (ptr vb) (I (mFits now L o.attr o.slot o.cls o.n)) (.bool true) (.pointer (some ⟨c10, 0, none⟩)) v ln ii w) w) w) w' := by
    intro w' pb c10 rp r10 hk' hc10
    refine ixs_r ha ?_
    refine ldn_r rp (rows_le Att.cells_length parkA a hal) ?_
    rw [rows_slice Att.cells_length parkA a hal, parkA_at hal]
    exact st w' c10 r10 hk' hc10
  unfold s5_p13 s5_p13_d
  unfold ptr at st last ⊢
  simp only [e_fd, e_nck, e_pkt, e_pkf, e_gdtt, e_gdtf, e_gdft, e_gdff, e_ift, e_iff, e_not, e_ln, e_lnT, e_cp, e_cvi, e_ex20, e_ex21, e_ex30, e_ex31, e_ex32, e_add, e_sub, e_mul, e_quo, e_rem, e_and, e_or, e_xor, e_shl, e_shr, e_eql, e_neq, e_lss, e_leq, e_gtr, e_geq, e_beq, e_bne, e_peq1, e_peq2, e_pne1, e_pne2, e_zeq1, e_zeq2, e_zne1, e_zne2, e_feq1, e_fne1, e_feq2, e_fne2, e_seq, e_sne, e_ta1, e_ta2, Nat.zero_add, Nat.add_zero, Bool.not_true, Bool.not_false]
  refine ld1_r (hwd.row' hr) hea ?_
  refine ⟨?_, ?_⟩
  · refine park_ok fun w1 pb hpb rp hk1 => ⟨hk1.below', ?_, ?_⟩
    · refine fi_r (o := 2) fiK30_2 rfl ⟨hk1.below', ?_, ?_⟩
      · refine ixs_r ha ⟨?_, ?_⟩
        · refine ldn_r rp (rows_le Att.cells_length parkA a hal) ?_
          rw [rows_slice Att.cells_length parkA a hal, parkA_at hal]
          refine nw_r fun w2 r2 hk2 hz2 => ⟨(hk1.trans hk2).below', ?_⟩
          exact st w2 _ r2 (hk1.trans hk2) hk1.size
        · refine nw_r fun w2 r2 hk2 hz2 => ⟨(hk1.trans hk2).below', ?_⟩
          refine ldn_r (hk2.row' rp) (rows_le Att.cells_length parkA a hal) ?_
          rw [rows_slice Att.cells_length parkA a hal, parkA_at hal]
          exact st w2 _ r2 (hk1.trans hk2) hk1.size
      · refine nw_r fun w2 r2 hk2 hz2 => ⟨(hk1.trans hk2).below', ?_⟩
        exact last w2 pb _ (hk2.row' rp) r2 (hk1.trans hk2) hk1.size
    · refine nw_r fun w2 r2 hk2 hz2 => ⟨(hk1.trans hk2).below', ?_⟩
      refine fi_r (o := 2) fiK30_2 rfl ⟨(hk1.trans hk2).below', ?_⟩
      exact last w2 pb _ (hk2.row' rp) r2 (hk1.trans hk2) hk1.size
  · refine nw_r fun w1 r1 hk1 hz1 => ⟨hk1.below', ?_⟩
    refine park_ok fun w2 pb hpb rp hk2 => ⟨(hk1.trans hk2).below', ?_⟩
    refine fi_r (o := 2) fiK30_2 rfl ⟨(hk1.trans hk2).below', ?_⟩
    exact last w2 pb _ rp (hk2.row' r1) (hk1.trans hk2) (Nat.le_refl _)

theorem adm_round {ops : List Op} {i : Nat} (hs : Scr W v ops) (hlt : i < ops.length) (h0 : St W w d tb now ts L)
    (hK : ∀ w' now' ts' L', St W w' d tb now' ts' L' → s5_p2 K B1 (ptr d) v ln (I i) w') : s5_p15 K B1 (ptr d) v ln (I i) w := by
  unfold s5_p15
  refine hs.take h0.bel hlt fun w1 b hr hb1 hbb => ?_
  have h1 := h0.kp hb1
  have ho := hs.1 _ (List.getElem_mem hlt)
  generalize hgo : ops[i] = o at *
  refine look_ok h1 fun w2 val hv2 hk2 => ?_
  obtain ⟨fob, fv, sob, sv, its, rfl, hV, hcs⟩ := hv2
  refine view_st hV.scal fun w3 vb rv3 hk3 hvb => ?_
  replace rv3 : Row w3 vb 43 [.bool true, I now, fv, sv] := rv3
  have h3 := (h1.kp hk2).kp hk3
  have hr3 := hk3.row' (hk2.row' hr)
  have hV3 := hV.kp hk3
  refine ldn_r hr3 (Nat.le_of_ble_eq_true rfl) ?_
  refine play_st (o := o) h3 fun w4 h4 hk4 => ?_
  have hr4 := h3.tabs.notP hr3 (by decide) (by decide) (by decide) hk4
  have rv4 := h3.tabs.notP rv3 (by decide) (by decide) (by decide) hk4
  have hlt1 := h1.lt
  have htb1 := h1.tabs.arr.lt
  have hV4 : VP w4 fob fv sob sv _ its w1.heap.size := hV3.kpS hk4 fun k e => .inl (by rcases e with e | e; rw [e]; exact hlt1.1; exact hlt1.2 k e)
  have n0 := h3.good.inv.n0
  have n1 := h3.good.inv.n1
  unfold ptr
  simp only [e_fd, e_nck, e_pkt, e_pkf, e_gdtt, e_gdtf, e_gdft, e_gdff, e_ift, e_iff, e_not, e_ln, e_lnT, e_cp, e_cvi, e_ex20, e_ex21, e_ex30, e_ex31, e_ex32, e_add, e_sub, e_mul, e_quo, e_rem, e_and, e_or, e_xor, e_shl, e_shr, e_eql, e_neq, e_lss, e_leq, e_gtr, e_geq, e_beq, e_bne, e_peq1, e_peq2, e_pne1, e_pne2, e_zeq1, e_zeq2, e_zne1, e_zne2, e_feq1, e_fne1, e_feq2, e_fne2, e_seq, e_sne, e_ta1, e_ta2, Nat.zero_add, Nat.add_zero, Bool.not_true, Bool.not_false]
  refine ld1_r hr4 rfl ?_
  simp only [e_fd, e_nck, e_pkt, e_pkf, e_gdtt, e_gdtf, e_gdft, e_gdff, e_ift, e_iff, e_not, e_ln, e_lnT, e_cp, e_cvi, e_ex20, e_ex21, e_ex30, e_ex31, e_ex32, e_add, e_sub, e_mul, e_quo, e_rem, e_and, e_or, e_xor, e_shl, e_shr, e_eql, e_neq, e_lss, e_leq, e_gtr, e_geq, e_beq, e_bne, e_peq1, e_peq2, e_pne1, e_pne2, e_zeq1, e_zeq2, e_zne1, e_zne2, e_feq1, e_fne1, e_feq2, e_fne2, e_seq, e_sne, e_ta1, e_ta2, Nat.zero_add, Nat.add_zero, Bool.not_true, Bool.not_false]
  by_cases k0 : o.kind = 0
  · have e : (o.kind != 0) = false := by simpa using k0
    simp only [e, e_fd, e_nck, e_pkt, e_pkf, e_gdtt, e_gdtf, e_gdft, e_gdff, e_ift, e_iff, e_not, e_ln, e_lnT, e_cp, e_cvi, e_ex20, e_ex21, e_ex30, e_ex31, e_ex32, e_add, e_sub, e_mul, e_quo, e_rem, e_and, e_or, e_xor, e_shl, e_shr, e_eql, e_neq, e_lss, e_leq, e_gtr, e_geq, e_beq, e_bne, e_peq1, e_peq2, e_pne1, e_pne2, e_zeq1, e_zeq2, e_zne1, e_zne2, e_feq1, e_fne1, e_feq2, e_fne2, e_seq, e_sne, e_ta1, e_ta2, Nat.zero_add, Nat.add_zero, Bool.not_true, Bool.not_false]
    have es : stepP now ts o = ⟨now, admitTs now ts o.attr o.slot o.cls o.n, fitsC now ts o.attr o.slot o.cls o.n, 0⟩ := by unfold stepP; rw [if_pos k0]
    have eL : stepL now L o = if mFits now L o.attr o.slot o.cls o.n = 0 then L ++ [⟨o.attr.toNat, o.slot, o.cls.toNat, o.n⟩] else L := by unfold stepL; rw [if_pos k0]
    have hbl := blks_step now ts o
    have ecode : (stepP now ts o).code = mFits now L o.attr o.slot o.cls o.n := by rw [es]; exact h3.good.fitsC _ _ _ _
    have enow : (stepP now ts o).now = now := by rw [es]
    rw [ecode]
    rw [enow] at h4
    generalize (stepP now ts o).ts = ts' at *
    generalize stepL now L o = L' at *
    have hlt' : ∀ k, k = d ∨ k = tb ∨ k ∈ blks ts' → k < w1.heap.size := by
      intro k hk
      rcases hk with rfl | rfl | hk
      · exact hlt1.1
      · exact htb1
      · rw [hbl] at hk; exact hlt1.2 k hk
    refine ldn_r hr4 (Nat.le_of_ble_eq_true rfl) ?_
    refine ld1_r rv4 rfl ?_
    refine wf_ok (o := o) n0 n1 fun w5 hk5 => ?_
    have h5 := h4.kp hk5
    have hV5 := hV4.kp hk5
    have hr5 := hk5.row' hr4
    have rv5 := hk5.row' rv4
    have hlo := h1.bel.size
    unfold s5_p14
    by_cases hck : chkP now o.attr o.slot o.cls o.n 0 = 0
    · rw [decide_eq_true hck]
      simp only [e_fd, e_nck, e_pkt, e_pkf, e_gdtt, e_gdtf, e_gdft, e_gdff, e_ift, e_iff, e_not, e_ln, e_lnT, e_cp, e_cvi, e_ex20, e_ex21, e_ex30, e_ex31, e_ex32, e_add, e_sub, e_mul, e_quo, e_rem, e_and, e_or, e_xor, e_shl, e_shr, e_eql, e_neq, e_lss, e_leq, e_gtr, e_geq, e_beq, e_bne, e_peq1, e_peq2, e_pne1, e_pne2, e_zeq1, e_zeq2, e_zne1, e_zne2, e_feq1, e_fne1, e_feq2, e_fne2, e_seq, e_sne, e_ta1, e_ta2, Nat.zero_add, Nat.add_zero, Bool.not_true, Bool.not_false]
      have hk := chkP_iff.1 hck
      refine adm_att (a := o.attr.toNat) (c := o.cls.toNat) h5 rv5 hV5 hcs hr5 h3.good.inv (by omega) (by omega) hck ho hlo hlt' eL (Kp.refl _ _) fun w6 h6 => hK _ _ _ _ h6
    · rw [decide_eq_false hck]
      simp only [e_fd, e_nck, e_pkt, e_pkf, e_gdtt, e_gdtf, e_gdft, e_gdff, e_ift, e_iff, e_not, e_ln, e_lnT, e_cp, e_cvi, e_ex20, e_ex21, e_ex30, e_ex31, e_ex32, e_add, e_sub, e_mul, e_quo, e_rem, e_and, e_or, e_xor, e_shl, e_shr, e_eql, e_neq, e_lss, e_leq, e_gtr, e_geq, e_beq, e_bne, e_peq1, e_peq2, e_pne1, e_pne2, e_zeq1, e_zeq2, e_zne1, e_zne2, e_feq1, e_fne1, e_feq2, e_fne2, e_seq, e_sne, e_ta1, e_ta2, Nat.zero_add, Nat.add_zero, Bool.not_true, Bool.not_false]
      refine adm_end h5 rv5 hV5 hcs hr5 h3.good.inv hlo hlt' eL ?_ (Kp.refl _ _) fun w6 h6 => hK _ _ _ _ h6
      unfold mFits
      rw [if_neg hck]
      simp [hck]
  · have e : (o.kind != 0) = true := by simpa using k0
    simp only [e, e_fd, e_nck, e_pkt, e_pkf, e_gdtt, e_gdtf, e_gdft, e_gdff, e_ift, e_iff, e_not, e_ln, e_lnT, e_cp, e_cvi, e_ex20, e_ex21, e_ex30, e_ex31, e_ex32, e_add, e_sub, e_mul, e_quo, e_rem, e_and, e_or, e_xor, e_shl, e_shr, e_eql, e_neq, e_lss, e_leq, e_gtr, e_geq, e_beq, e_bne, e_peq1, e_peq2, e_pne1, e_pne2, e_zeq1, e_zeq2, e_zne1, e_zne2, e_feq1, e_fne1, e_feq2, e_fne2, e_seq, e_sne, e_ta1, e_ta2, Nat.zero_add, Nat.add_zero, Bool.not_true, Bool.not_false]
    exact hK _ _ _ _ h4
end

theorem adm_law {W : World} {v : Value} {ops : List Op} (hs : Scr W v ops) : cl Try.prog 5 #[v] (fun r w' => r = .bool true ∧ Below W.heap.size W w') W := by
  apply c5
  unfold s5_p18
  refine small_ok hs ?_
  simp only [e_fd, e_nck, e_pkt, e_pkf, e_gdtt, e_gdtf, e_gdft, e_gdff, e_ift, e_iff, e_not, e_ln, e_lnT, e_cp, e_cvi, e_ex20, e_ex21, e_ex30, e_ex31, e_ex32, e_add, e_sub, e_mul, e_quo, e_rem, e_and, e_or, e_xor, e_shl, e_shr, e_eql, e_neq, e_lss, e_leq, e_gtr, e_geq, e_beq, e_bne, e_peq1, e_peq2, e_pne1, e_pne2, e_zeq1, e_zeq2, e_zne1, e_zne2, e_feq1, e_fne1, e_feq2, e_fne2, e_seq, e_sne, e_ta1, e_ta2, Nat.zero_add, Nat.add_zero, Bool.not_true, Bool.not_false]
  by_cases hsm : ops.length ≤ 65536
  · rw [decide_eq_true hsm]
    simp only [Bool.not_true, e_fd, e_nck, e_pkt, e_pkf, e_gdtt, e_gdtf, e_gdft, e_gdff, e_ift, e_iff, e_not, e_ln, e_lnT, e_cp, e_cvi, e_ex20, e_ex21, e_ex30, e_ex31, e_ex32, e_add, e_sub, e_mul, e_quo, e_rem, e_and, e_or, e_xor, e_shl, e_shr, e_eql, e_neq, e_lss, e_leq, e_gtr, e_geq, e_beq, e_bne, e_peq1, e_peq2, e_pne1, e_pne2, e_zeq1, e_zeq2, e_zne1, e_zne2, e_feq1, e_fne1, e_feq2, e_fne2, e_seq, e_sne, e_ta1, e_ta2, Nat.zero_add, Nat.add_zero, Bool.not_true, Bool.not_false]
    refine fresh_st fun w0 d tb ts0 h0 hk0 hd0 => ?_
    refine hs.ln ?_
    refine ⟨fun m l w => ∃ (i : Nat) (now : Int) (ts : List Tab) (L : List Ent), i ≤ ops.length ∧ m = ops.length - i ∧ l = [ptr d, v, I ops.length, I i] ∧ St W w d tb now ts L,
      ops.length, ⟨0, 0, ts0, [], by omega, by omega, rfl, h0⟩, ?_⟩
    rintro m l w ⟨i, now, ts, L, hi, hm, rfl, h⟩
    rw [s5_p17_Fe]
    unfold s5_p16
    simp only [e_fd, e_nck, e_pkt, e_pkf, e_gdtt, e_gdtf, e_gdft, e_gdff, e_ift, e_iff, e_not, e_ln, e_lnT, e_cp, e_cvi, e_ex20, e_ex21, e_ex30, e_ex31, e_ex32, e_add, e_sub, e_mul, e_quo, e_rem, e_and, e_or, e_xor, e_shl, e_shr, e_eql, e_neq, e_lss, e_leq, e_gtr, e_geq, e_beq, e_bne, e_peq1, e_peq2, e_pne1, e_pne2, e_zeq1, e_zeq2, e_zne1, e_zne2, e_feq1, e_fne1, e_feq2, e_fne2, e_seq, e_sne, e_ta1, e_ta2, Nat.zero_add, Nat.add_zero, Bool.not_true, Bool.not_false]
    by_cases hlt : i < ops.length
    · have hlt' : (i : Int) < (ops.length : Int) := by omega
      simp only [hlt', decide_true, e_fd, e_nck, e_pkt, e_pkf, e_gdtt, e_gdtf, e_gdft, e_gdff, e_ift, e_iff, e_not, e_ln, e_lnT, e_cp, e_cvi, e_ex20, e_ex21, e_ex30, e_ex31, e_ex32, e_add, e_sub, e_mul, e_quo, e_rem, e_and, e_or, e_xor, e_shl, e_shr, e_eql, e_neq, e_lss, e_leq, e_gtr, e_geq, e_beq, e_bne, e_peq1, e_peq2, e_pne1, e_pne2, e_zeq1, e_zeq2, e_zne1, e_zne2, e_feq1, e_fne1, e_feq2, e_fne2, e_seq, e_sne, e_ta1, e_ta2, Nat.zero_add, Nat.add_zero, Bool.not_true, Bool.not_false]
      refine adm_round hs hlt h fun w' now' ts' L' h' => ?_
      unfold s5_p2
      simp only [e_fd, e_nck, e_pkt, e_pkf, e_gdtt, e_gdtf, e_gdft, e_gdff, e_ift, e_iff, e_not, e_ln, e_lnT, e_cp, e_cvi, e_ex20, e_ex21, e_ex30, e_ex31, e_ex32, e_add, e_sub, e_mul, e_quo, e_rem, e_and, e_or, e_xor, e_shl, e_shr, e_eql, e_neq, e_lss, e_leq, e_gtr, e_geq, e_beq, e_bne, e_peq1, e_peq2, e_pne1, e_pne2, e_zeq1, e_zeq2, e_zne1, e_zne2, e_feq1, e_fne1, e_feq2, e_fne2, e_seq, e_sne, e_ta1, e_ta2, Nat.zero_add, Nat.add_zero, Bool.not_true, Bool.not_false]
      rw [wrap64_id (by omega) (by omega)]
      exact ⟨ops.length - (i + 1), by omega, i + 1, now', ts', L', by omega, rfl, by simp, h'⟩
    · have hlt' : ¬ (i : Int) < (ops.length : Int) := by omega
      simp only [hlt', decide_false, e_fd, e_nck, e_pkt, e_pkf, e_gdtt, e_gdtf, e_gdft, e_gdff, e_ift, e_iff, e_not, e_ln, e_lnT, e_cp, e_cvi, e_ex20, e_ex21, e_ex30, e_ex31, e_ex32, e_add, e_sub, e_mul, e_quo, e_rem, e_and, e_or, e_xor, e_shl, e_shr, e_eql, e_neq, e_lss, e_leq, e_gtr, e_geq, e_beq, e_bne, e_peq1, e_peq2, e_pne1, e_pne2, e_zeq1, e_zeq2, e_zne1, e_zne2, e_feq1, e_fne1, e_feq2, e_fne2, e_seq, e_sne, e_ta1, e_ta2, Nat.zero_add, Nat.add_zero, Bool.not_true, Bool.not_false]
      unfold s5_p1
      exact ⟨rfl, h.bel⟩
  · rw [decide_eq_false hsm]
    simp only [Bool.not_false, e_fd, e_nck, e_pkt, e_pkf, e_gdtt, e_gdtf, e_gdft, e_gdff, e_ift, e_iff, e_not, e_ln, e_lnT, e_cp, e_cvi, e_ex20, e_ex21, e_ex30, e_ex31, e_ex32, e_add, e_sub, e_mul, e_quo, e_rem, e_and, e_or, e_xor, e_shl, e_shr, e_eql, e_neq, e_lss, e_leq, e_gtr, e_geq, e_beq, e_bne, e_peq1, e_peq2, e_pne1, e_pne2, e_zeq1, e_zeq2, e_zne1, e_zne2, e_feq1, e_fne1, e_feq2, e_fne2, e_seq, e_sne, e_ta1, e_ta2, Nat.zero_add, Nat.add_zero, Bool.not_true, Bool.not_false]
    exact ⟨trivial, Below.refl _ _⟩

theorem adm_walk {W : World} {v : Value} {ops : List Op} (hs : Scr W v ops) : Calls Try.prog 5 #[v] W fun e w' => e = .returned (.bool true) ∧ Below W.heap.size W w' :=
  Calls.mono (adm_law hs) fun e w' ⟨v, he, hv, hb⟩ => ⟨by rw [he, hv], hb⟩
end Go.Proofs.Qxb6500897a
