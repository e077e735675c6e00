import Derived.Test.Qxb6500897aP40
namespace Go.Proofs.Qxb6500897a
open Go.Sh Go.RowKit
set_option linter.unusedVariables false
set_option linter.unusedSimpArgs false

/-! ### AdvanceClearsExactlyTheExpired -/
set_option maxRecDepth 100000 in
theorem u66 : ∃ kt et, Try.prog.underlying 66 = some (.map kt et) ∧ Try.prog.underlying kt = some (.int .i64) ∧ ∀ w, (zeroValue et).run Try.prog w = .ok (.bool false) w := by
  refine ⟨3, 4, by kernel_rfl, by kernel_rfl, fun w => ?_⟩
  have hu : Try.prog.underlying 4 = some .bool := Try.underlying4
  rfl

section
variable {W w0 w : World} {d tb : Nat} {now : Int} {ts : List Tab} {L : List Ent} {K : Value → World → Prop} {B1 B2 B3 : List Value → World → Prop} {t5 t6 t7 t25 t26 t27 t43 t44 : Value}
  {fob : Option Nat} {fv : Value} {sob : Option Nat} {sv : Value} {its : List It} {lo vb : Nat}

/-- the cells of one attraction are apart -/
theorem adv_cells {a : Nat} (h : St W w0 d tb now ts L) (hV : VP w0 fob fv sob sv (vwOf now L).first its lo) (hcs : (vwOf now L).slots = its.map (·.cs)) (rv : Row w0 vb 43 [.bool true, I now, fv, sv]) (ha : a < 4) {mb : Nat} (hmb : w0.heap.size ≤ mb)
    (hm : MapAt w mb .i64 []) (hw : Kp (fun _ => False) w0 w)
    (hK : ∀ w', Kp (fun _ => False) w0 w' → s7_p14 K B1 B2 (ptr d) t5 t6 t7 (ptr vb) t25 t26 t27 t43 t44 w') :
    s7_p16 K B1 B2 (ptr d) t5 t6 t7 (ptr vb) (I a) (.map (some mb)) t25 t26 t27 t43 t44 (I (rlen a)) (I 0) w := by
  obtain ⟨hil, hrows⟩ := its_row hcs
  have hai : a < its.length := by omega
  have hal : a < ts.length := by rw [h.good.len]; omega
  have haf : a < (vwOf now L).first.length := by simp [vwOf]; omega
  have hdw : (pa a).dwell = dw a := rfl
  have hb := pa_bd a
  have n0 := h.good.inv.n0
  have n1 := h.good.inv.n1
  have hrl : (rlen a : Int) = 6 + 2 * (dw a - 1) := by unfold rlen; omega
  have hrl1 := rlen_le a
  have hf1 : fst1 now a = now - (dw a - 1) := rfl
  have hlen : its[a].cs.length = rlen a := by rw [hrows a hai]; unfold rowOf; rw [rowTo_length]
  have hatt : ts[a].att.dwell = dw a := by rw [(h.good.ring a hal).att]
  obtain ⟨kt, et, hu1, hu2, hu3⟩ := u66
  refine ⟨fun m l w => ∃ i : Nat, i ≤ rlen a ∧ m = rlen a - i ∧ l = [ptr d, t5, t6, t7, ptr vb, I a, .map (some mb), t25, t26, t27, t43, t44, I (rlen a), I i] ∧ Kp (fun _ => False) w0 w ∧
      MapAt w mb .i64 ((List.range i).map fun j => ((ps ts[a] (fst1 now a + (j : Nat)) % rlen a : Nat) : Int)),
    rlen a, ⟨0, by omega, by omega, rfl, hw, hm⟩, ?_⟩
  rintro m l w ⟨i, hi, hm, rfl, hw, hmap⟩
  rw [s7_p16_Fe]
  unfold s7_p15
  simp only [e_fd, e_nck, e_pkt, e_pkf, e_gdtt, e_gdtf, e_gdft, e_gdff, e_ift, e_iff, e_not, e_ln, e_lnT, e_cp, e_cvi, e_ex20, e_ex21, e_ex30, e_ex31, e_ex32, e_add, e_sub, e_mul, e_quo, e_rem, e_and, e_or, e_xor, e_shl, e_shr, e_eql, e_neq, e_lss, e_leq, e_gtr, e_geq, e_beq, e_bne, e_peq1, e_peq2, e_pne1, e_pne2, e_zeq1, e_zeq2, e_zne1, e_zne2, e_feq1, e_fne1, e_feq2, e_fne2, e_seq, e_sne, e_ta1, e_ta2, Nat.zero_add, Nat.add_zero, Bool.not_true, Bool.not_false]
  by_cases hlt : i < rlen a
  · have hlt' : (i : Int) < ((rlen a : Nat) : Int) := by omega
    simp only [hlt', decide_true, e_fd, e_nck, e_pkt, e_pkf, e_gdtt, e_gdtf, e_gdft, e_gdff, e_ift, e_iff, e_not, e_ln, e_lnT, e_cp, e_cvi, e_ex20, e_ex21, e_ex30, e_ex31, e_ex32, e_add, e_sub, e_mul, e_quo, e_rem, e_and, e_or, e_xor, e_shl, e_shr, e_eql, e_neq, e_lss, e_leq, e_gtr, e_geq, e_beq, e_bne, e_peq1, e_peq2, e_pne1, e_pne2, e_zeq1, e_zeq2, e_zne1, e_zne2, e_feq1, e_fne1, e_feq2, e_fne2, e_seq, e_sne, e_ta1, e_ta2, Nat.zero_add, Nat.add_zero, Bool.not_true, Bool.not_false]
    have hVw := hV.kp hw
    unfold ptr
    simp only [e_fd, e_nck, e_pkt, e_pkf, e_gdtt, e_gdtf, e_gdft, e_gdff, e_ift, e_iff, e_not, e_ln, e_lnT, e_cp, e_cvi, e_ex20, e_ex21, e_ex30, e_ex31, e_ex32, e_add, e_sub, e_mul, e_quo, e_rem, e_and, e_or, e_xor, e_shl, e_shr, e_eql, e_neq, e_lss, e_leq, e_gtr, e_geq, e_beq, e_bne, e_peq1, e_peq2, e_pne1, e_pne2, e_zeq1, e_zeq2, e_zne1, e_zne2, e_feq1, e_fne1, e_feq2, e_fne2, e_seq, e_sne, e_ta1, e_ta2, Nat.zero_add, Nat.add_zero, Bool.not_true, Bool.not_false]
    refine ld1_r (hw.row' rv) rfl ?_
    refine ix1 (g := fun n : Int => I n) (fun _ => rfl) hVw.f haf fun b l _ hr hg => ?_
    rw [vw_first haf] at hg
    refine ld1_r hr hg ?_
    simp only [e_fd, e_nck, e_pkt, e_pkf, e_gdtt, e_gdtf, e_gdft, e_gdff, e_ift, e_iff, e_not, e_ln, e_lnT, e_cp, e_cvi, e_ex20, e_ex21, e_ex30, e_ex31, e_ex32, e_add, e_sub, e_mul, e_quo, e_rem, e_and, e_or, e_xor, e_shl, e_shr, e_eql, e_neq, e_lss, e_leq, e_gtr, e_geq, e_beq, e_bne, e_peq1, e_peq2, e_pne1, e_pne2, e_zeq1, e_zeq2, e_zne1, e_zne2, e_feq1, e_fne1, e_feq2, e_fne2, e_seq, e_sne, e_ta1, e_ta2, Nat.zero_add, Nat.add_zero, Bool.not_true, Bool.not_false]
    rw [wrap64_id (by omega) (by omega)]
    refine (h.kp hw).cellOf ha hal (by omega) (by omega) fun w1 hk1 => ?_
    have hw1 := hw.trans hk1
    have hmap1 := hmap.kp hk1 (fun h => h)
    have hVw1 := hV.kp hw1
    have hml : ps ts[a] (fst1 now a + (i : Nat)) % rlen a < rlen a := Nat.mod_lt _ (by omega)
    have hnot : ((ps ts[a] (fst1 now a + (i : Nat)) % rlen a : Nat) : Int) ∉ (List.range i).map fun j => ((ps ts[a] (fst1 now a + (j : Nat)) % rlen a : Nat) : Int) := by
      intro hmem
      obtain ⟨j, hj, e⟩ := List.mem_map.1 hmem
      rw [List.mem_range] at hj
      have e' : ps ts[a] (fst1 now a + (j : Nat)) % rlen a = ps ts[a] (fst1 now a + (i : Nat)) % rlen a := by omega
      have := mod_inj (lo := now.toNat) (L := rlen a) (by unfold ps; rw [hatt]; omega) (by unfold ps; rw [hatt]; omega) (by unfold ps; rw [hatt]; omega) (by unfold ps; rw [hatt]; omega) e'
      unfold ps at this
      rw [hatt] at this
      omega
    simp only [e_fd, e_nck, e_pkt, e_pkf, e_gdtt, e_gdtf, e_gdft, e_gdff, e_ift, e_iff, e_not, e_ln, e_lnT, e_cp, e_cvi, e_ex20, e_ex21, e_ex30, e_ex31, e_ex32, e_add, e_sub, e_mul, e_quo, e_rem, e_and, e_or, e_xor, e_shl, e_shr, e_eql, e_neq, e_lss, e_leq, e_gtr, e_geq, e_beq, e_bne, e_peq1, e_peq2, e_pne1, e_pne2, e_zeq1, e_zeq2, e_zne1, e_zne2, e_feq1, e_fne1, e_feq2, e_fne2, e_seq, e_sne, e_ta1, e_ta2, Nat.zero_add, Nat.add_zero, Bool.not_true, Bool.not_false]
    have c0 : ¬ ((ps ts[a] (fst1 now a + (i : Nat)) % rlen a : Nat) : Int) < 0 := by omega
    have c1 : ¬ ((rlen a : Nat) : Int) ≤ ((ps ts[a] (fst1 now a + (i : Nat)) % rlen a : Nat) : Int) := by omega
    generalize hx : ps ts[a] (fst1 now a + (i : Nat)) % rlen a = x at *
    simp only [c0, c1, decide_false, e_fd, e_nck, e_pkt, e_pkf, e_gdtt, e_gdtf, e_gdft, e_gdff, e_ift, e_iff, e_not, e_ln, e_lnT, e_cp, e_cvi, e_ex20, e_ex21, e_ex30, e_ex31, e_ex32, e_add, e_sub, e_mul, e_quo, e_rem, e_and, e_or, e_xor, e_shl, e_shr, e_eql, e_neq, e_lss, e_leq, e_gtr, e_geq, e_beq, e_bne, e_peq1, e_peq2, e_pne1, e_pne2, e_zeq1, e_zeq2, e_zne1, e_zne2, e_feq1, e_fne1, e_feq2, e_fne2, e_seq, e_sne, e_ta1, e_ta2, Nat.zero_add, Nat.add_zero, Bool.not_true, Bool.not_false]
    refine lk_map hu1 hu2 (hu3 w1) hmap1 hnot ?_
    simp only [e_fd, e_nck, e_pkt, e_pkf, e_gdtt, e_gdtf, e_gdft, e_gdff, e_ift, e_iff, e_not, e_ln, e_lnT, e_cp, e_cvi, e_ex20, e_ex21, e_ex30, e_ex31, e_ex32, e_add, e_sub, e_mul, e_quo, e_rem, e_and, e_or, e_xor, e_shl, e_shr, e_eql, e_neq, e_lss, e_leq, e_gtr, e_geq, e_beq, e_bne, e_peq1, e_peq2, e_pne1, e_pne2, e_zeq1, e_zeq2, e_zne1, e_zne2, e_feq1, e_fne1, e_feq2, e_fne2, e_seq, e_sne, e_ta1, e_ta2, Nat.zero_add, Nat.add_zero, Bool.not_true, Bool.not_false]
    refine ld1_r (hw1.row' rv) rfl ?_
    refine ix1 (g := It.rv) (fun _ => rfl) hVw1.s hai fun b l _ hr hg => ?_
    try simp only [e_fd, e_nck, e_pkt, e_pkf, e_gdtt, e_gdtf, e_gdft, e_gdff, e_ift, e_iff, e_not, e_ln, e_lnT, e_cp, e_cvi, e_ex20, e_ex21, e_ex30, e_ex31, e_ex32, e_add, e_sub, e_mul, e_quo, e_rem, e_and, e_or, e_xor, e_shl, e_shr, e_eql, e_neq, e_lss, e_leq, e_gtr, e_geq, e_beq, e_bne, e_peq1, e_peq2, e_pne1, e_pne2, e_zeq1, e_zeq2, e_zne1, e_zne2, e_feq1, e_fne1, e_feq2, e_fne2, e_seq, e_sne, e_ta1, e_ta2, Nat.zero_add, Nat.add_zero, Bool.not_true, Bool.not_false]
    refine ld1_r hr hg ?_
    refine (hVw1.r _ (List.getElem_mem hai)).ln ?_
    rw [hlen]
    have ene : (((rlen a : Nat) : Int) != ((rlen a : Nat) : Int)) = false := by simp
    simp only [ene, e_fd, e_nck, e_pkt, e_pkf, e_gdtt, e_gdtf, e_gdft, e_gdff, e_ift, e_iff, e_not, e_ln, e_lnT, e_cp, e_cvi, e_ex20, e_ex21, e_ex30, e_ex31, e_ex32, e_add, e_sub, e_mul, e_quo, e_rem, e_and, e_or, e_xor, e_shl, e_shr, e_eql, e_neq, e_lss, e_leq, e_gtr, e_geq, e_beq, e_bne, e_peq1, e_peq2, e_pne1, e_pne2, e_zeq1, e_zeq2, e_zne1, e_zne2, e_feq1, e_fne1, e_feq2, e_fne2, e_seq, e_sne, e_ta1, e_ta2, Nat.zero_add, Nat.add_zero, Bool.not_true, Bool.not_false]
    refine up_map hu1 hu2 hmap1 hnot fun w2 hmap2 hk2 hz2 => ?_
    try simp only [e_fd, e_nck, e_pkt, e_pkf, e_gdtt, e_gdtf, e_gdft, e_gdff, e_ift, e_iff, e_not, e_ln, e_lnT, e_cp, e_cvi, e_ex20, e_ex21, e_ex30, e_ex31, e_ex32, e_add, e_sub, e_mul, e_quo, e_rem, e_and, e_or, e_xor, e_shl, e_shr, e_eql, e_neq, e_lss, e_leq, e_gtr, e_geq, e_beq, e_bne, e_peq1, e_peq2, e_pne1, e_pne2, e_zeq1, e_zeq2, e_zne1, e_zne2, e_feq1, e_fne1, e_feq2, e_fne2, e_seq, e_sne, e_ta1, e_ta2, Nat.zero_add, Nat.add_zero, Bool.not_true, Bool.not_false]
    rw [wrap64_id (by omega) (by omega)]
    refine ⟨rlen a - (i + 1), by omega, i + 1, by omega, rfl, by simp [ptr], hw1.then hk2 (by intro y hy (e : y = mb); omega), ?_⟩
    rw [List.range_succ, List.map_append, List.map_singleton, hx]
    exact hmap2
  · have hlt' : ¬ (i : Int) < ((rlen a : Nat) : Int) := by omega
    simp only [hlt', decide_false, e_fd, e_nck, e_pkt, e_pkf, e_gdtt, e_gdtf, e_gdft, e_gdff, e_ift, e_iff, e_not, e_ln, e_lnT, e_cp, e_cvi, e_ex20, e_ex21, e_ex30, e_ex31, e_ex32, e_add, e_sub, e_mul, e_quo, e_rem, e_and, e_or, e_xor, e_shl, e_shr, e_eql, e_neq, e_lss, e_leq, e_gtr, e_geq, e_beq, e_bne, e_peq1, e_peq2, e_pne1, e_pne2, e_zeq1, e_zeq2, e_zne1, e_zne2, e_feq1, e_fne1, e_feq2, e_fne2, e_seq, e_sne, e_ta1, e_ta2, Nat.zero_add, Nat.add_zero, Bool.not_true, Bool.not_false]
    exact hK w hw

theorem adv_apart (h : St W w0 d tb now ts L) (hV : VP w0 fob fv sob sv (vwOf now L).first its lo) (hcs : (vwOf now L).slots = its.map (·.cs)) (rv : Row w0 vb 43 [.bool true, I now, fv, sv]) (hw : Kp (fun _ => False) w0 w)
    (hK : ∀ w', Kp (fun _ => False) w0 w' → s7_p13 K B1 (ptr d) t5 t6 t7 (ptr vb) t25 t26 t27 w') :
    s7_p19 K B1 (ptr d) t5 t6 t7 (ptr vb) t25 t26 t27 (I 4) (I 0) w := by
  obtain ⟨hil, hrows⟩ := its_row hcs
  refine ⟨fun m l w => ∃ a : Nat, a ≤ 4 ∧ m = 4 - a ∧ l = [ptr d, t5, t6, t7, ptr vb, t25, t26, t27, I 4, I a] ∧ Kp (fun _ => False) w0 w,
    4, ⟨0, by omega, by omega, rfl, hw⟩, ?_⟩
  rintro m l w ⟨a, ha, hm, rfl, hw⟩
  rw [s7_p19_Fe]
  unfold s7_p18
  simp only [e_fd, e_nck, e_pkt, e_pkf, e_gdtt, e_gdtf, e_gdft, e_gdff, e_ift, e_iff, e_not, e_ln, e_lnT, e_cp, e_cvi, e_ex20, e_ex21, e_ex30, e_ex31, e_ex32, e_add, e_sub, e_mul, e_quo, e_rem, e_and, e_or, e_xor, e_shl, e_shr, e_eql, e_neq, e_lss, e_leq, e_gtr, e_geq, e_beq, e_bne, e_peq1, e_peq2, e_pne1, e_pne2, e_zeq1, e_zeq2, e_zne1, e_zne2, e_feq1, e_fne1, e_feq2, e_fne2, e_seq, e_sne, e_ta1, e_ta2, Nat.zero_add, Nat.add_zero, Bool.not_true, Bool.not_false]
  by_cases hlt : a < 4
  · have hlt' : (a : Int) < 4 := by omega
    simp only [hlt', decide_true, e_fd, e_nck, e_pkt, e_pkf, e_gdtt, e_gdtf, e_gdft, e_gdff, e_ift, e_iff, e_not, e_ln, e_lnT, e_cp, e_cvi, e_ex20, e_ex21, e_ex30, e_ex31, e_ex32, e_add, e_sub, e_mul, e_quo, e_rem, e_and, e_or, e_xor, e_shl, e_shr, e_eql, e_neq, e_lss, e_leq, e_gtr, e_geq, e_beq, e_bne, e_peq1, e_peq2, e_pne1, e_pne2, e_zeq1, e_zeq2, e_zne1, e_zne2, e_feq1, e_fne1, e_feq2, e_fne2, e_seq, e_sne, e_ta1, e_ta2, Nat.zero_add, Nat.add_zero, Bool.not_true, Bool.not_false]
    unfold s7_p17
    refine mk_map (q := .i64) fun w1 hm1 hk1 hz1 => ?_
    have hw1 := hw.trans hk1
    have hai : a < its.length := by omega
    have hV1 := hV.kp hw1
    unfold ptr
    simp only [e_fd, e_nck, e_pkt, e_pkf, e_gdtt, e_gdtf, e_gdft, e_gdff, e_ift, e_iff, e_not, e_ln, e_lnT, e_cp, e_cvi, e_ex20, e_ex21, e_ex30, e_ex31, e_ex32, e_add, e_sub, e_mul, e_quo, e_rem, e_and, e_or, e_xor, e_shl, e_shr, e_eql, e_neq, e_lss, e_leq, e_gtr, e_geq, e_beq, e_bne, e_peq1, e_peq2, e_pne1, e_pne2, e_zeq1, e_zeq2, e_zne1, e_zne2, e_feq1, e_fne1, e_feq2, e_fne2, e_seq, e_sne, e_ta1, e_ta2, Nat.zero_add, Nat.add_zero, Bool.not_true, Bool.not_false]
    refine ld1_r (hw1.row' rv) rfl ?_
    refine ix1 (g := It.rv) (fun _ => rfl) hV1.s hai fun b l _ hr hg => ?_
    refine ld1_r hr hg ?_
    refine (hV1.r _ (List.getElem_mem hai)).ln ?_
    have hlen : its[a].cs.length = rlen a := by rw [hrows a hai]; unfold rowOf; rw [rowTo_length]
    rw [hlen]
    have hz := hw.size
    refine adv_cells h hV hcs rv hlt hz hm1 hw1 fun w2 hk2 => ?_
    unfold s7_p14
    simp only [e_fd, e_nck, e_pkt, e_pkf, e_gdtt, e_gdtf, e_gdft, e_gdff, e_ift, e_iff, e_not, e_ln, e_lnT, e_cp, e_cvi, e_ex20, e_ex21, e_ex30, e_ex31, e_ex32, e_add, e_sub, e_mul, e_quo, e_rem, e_and, e_or, e_xor, e_shl, e_shr, e_eql, e_neq, e_lss, e_leq, e_gtr, e_geq, e_beq, e_bne, e_peq1, e_peq2, e_pne1, e_pne2, e_zeq1, e_zeq2, e_zne1, e_zne2, e_feq1, e_fne1, e_feq2, e_fne2, e_seq, e_sne, e_ta1, e_ta2, Nat.zero_add, Nat.add_zero, Bool.not_true, Bool.not_false]
    rw [wrap64_id (by omega) (by omega)]
    exact ⟨4 - (a + 1), by omega, a + 1, by omega, rfl, by simp [ptr], hk2⟩
  · have hlt' : ¬ (a : Int) < 4 := by omega
    simp only [hlt', decide_false, e_fd, e_nck, e_pkt, e_pkf, e_gdtt, e_gdtf, e_gdft, e_gdff, e_ift, e_iff, e_not, e_ln, e_lnT, e_cp, e_cvi, e_ex20, e_ex21, e_ex30, e_ex31, e_ex32, e_add, e_sub, e_mul, e_quo, e_rem, e_and, e_or, e_xor, e_shl, e_shr, e_eql, e_neq, e_lss, e_leq, e_gtr, e_geq, e_beq, e_bne, e_peq1, e_peq2, e_pne1, e_pne2, e_zeq1, e_zeq2, e_zne1, e_zne2, e_feq1, e_fne1, e_feq2, e_fne2, e_seq, e_sne, e_ta1, e_ta2, Nat.zero_add, Nat.add_zero, Bool.not_true, Bool.not_false]
    exact hK w hw
end

/-- a slot that enters the window is empty -/
theorem atC_adv {now n : Int} {L : List Ent} (hi : Inv now L) (hn : 0 ≤ n) {a : Nat} {s : Int} (hs : seen (now + n) a s) : ctrOf L a s = atC now L a s := by
  have hdw : (pa a).dwell = dw a := rfl
  have hb := pa_bd a
  have hrl : (rlen a : Int) = 6 + 2 * (dw a - 1) := by unfold rlen; omega
  unfold atC
  by_cases h : seen now a s
  · rw [if_pos h]
  · rw [if_neg h]
    unfold seen fst1 at h hs
    unfold ctrOf
    rw [ins_late hi a (by omega), ent_late hi a 0 (by omega), ent_late hi a 1 (by omega), ent_late hi a 2 (by omega)]

section
variable {W w0 w : World} {d tb : Nat} {now now' : Int} {L : List Ent} {K : Value → World → Prop} {B1 B2 B3 : List Value → World → Prop} {t3 t25 t26 t27 : Value}
  {fob : Option Nat} {fv : Value} {sob : Option Nat} {sv : Value} {its : List It} {lo vb : Nat} {fob' : Option Nat} {fv' : Value} {sob' : Option Nat} {sv' : Value} {its' : List It} {lo' vb' : Nat}

/-- one slot -/
theorem adv_slot {a i : Nat} {t126 : Value} (n0 : 0 ≤ now) (n1 : now' ≤ 90) (hnn : now ≤ now') (hi : Inv now L) (hV : VP w0 fob fv sob sv (vwOf now L).first its lo) (hcs : (vwOf now L).slots = its.map (·.cs)) (rv : Row w0 vb 43 [.bool true, I now, fv, sv])
    (hV' : VP w0 fob' fv' sob' sv' (vwOf now' L).first its' lo') (hcs' : (vwOf now' L).slots = its'.map (·.cs)) (rv' : Row w0 vb' 43 [.bool true, I now', fv', sv']) (ha : a < 4) (hil : i < rlen a)
    {cb : Nat} (rc : Row w cb 61 (ctrOf L a (fst1 now' a + (i : Nat))).cells) (hw : Kp (fun _ => False) w0 w)
    (hK : ∀ w', Kp (fun _ => False) w0 w' → s7_p4 K B1 B2 B3 t3 (ptr vb) (ptr vb') (I a) t25 t26 t27 (I 4) (I a) t126 (I (rlen a)) (I i) w') :
    s7_p6 K B1 B2 B3 t3 (ptr vb) (ptr vb') (I a) (I i) (ptr cb) t25 t26 t27 (I 4) (I a) t126 (I (rlen a)) (I i) w := by
  have haf : a < (vwOf now' L).first.length := by simp [vwOf]; omega
  have hdw : (pa a).dwell = dw a := rfl
  have hb := pa_bd a
  have hrl : (rlen a : Int) = 6 + 2 * (dw a - 1) := by unfold rlen; omega
  have hrl1 := rlen_le a
  have hf1 : fst1 now' a = now' - (dw a - 1) := rfl
  have hs' : seen now' a (fst1 now' a + (i : Nat)) := ⟨by omega, by omega⟩
  have hC := atC_adv hi (n := now' - now) (by omega) (a := a) (s := fst1 now' a + (i : Nat)) (by rw [show now + (now' - now) = now' by omega]; exact hs')
  have hwd : Kp (fun _ => False) w0 (drw w) := hw.trans kp_drw
  have rcd := rc.drw
  rw [hC] at rcd
  -- the end
  have fin : ∀ w' c19, Row w' c19 61 (atC now L a (fst1 now' a + (i : Nat))).cells → Kp (fun _ => False) (drw w) w' →
      s7_p5 K B1 B2 B3 t3 (ptr vb) (ptr vb') (I a) (ptr cb) (ptr c19) (.bool (decide (seen now a (fst1 now' a + (i : Nat))))) t25 t26 t27 (I 4) (I a) t126 (I (rlen a)) (I i) w' := by
    intro w' c19 r19 hk'
    have rc' := hk'.row' rcd
    unfold s7_p5
    by_cases hseen : seen now a (fst1 now' a + (i : Nat))
    · rw [decide_eq_true hseen]
      unfold ptr
      simp only [e_fd, e_nck, e_pkt, e_pkf, e_gdtt, e_gdtf, e_gdft, e_gdff, e_ift, e_iff, e_not, e_ln, e_lnT, e_cp, e_cvi, e_ex20, e_ex21, e_ex30, e_ex31, e_ex32, e_add, e_sub, e_mul, e_quo, e_rem, e_and, e_or, e_xor, e_shl, e_shr, e_eql, e_neq, e_lss, e_leq, e_gtr, e_geq, e_beq, e_bne, e_peq1, e_peq2, e_pne1, e_pne2, e_zeq1, e_zeq2, e_zne1, e_zne2, e_feq1, e_fne1, e_feq2, e_fne2, e_seq, e_sne, e_ta1, e_ta2, Nat.zero_add, Nat.add_zero, Bool.not_true, Bool.not_false]
      refine ldn_r rc' (Nat.le_of_ble_eq_true rfl) ?_
      refine ldn_r r19 (Nat.le_of_ble_eq_true rfl) ?_
      refine ctr_neq ?_
      simp only [e_fd, e_nck, e_pkt, e_pkf, e_gdtt, e_gdtf, e_gdft, e_gdff, e_ift, e_iff, e_not, e_ln, e_lnT, e_cp, e_cvi, e_ex20, e_ex21, e_ex30, e_ex31, e_ex32, e_add, e_sub, e_mul, e_quo, e_rem, e_and, e_or, e_xor, e_shl, e_shr, e_eql, e_neq, e_lss, e_leq, e_gtr, e_geq, e_beq, e_bne, e_peq1, e_peq2, e_pne1, e_pne2, e_zeq1, e_zeq2, e_zne1, e_zne2, e_feq1, e_fne1, e_feq2, e_fne2, e_seq, e_sne, e_ta1, e_ta2, Nat.zero_add, Nat.add_zero, Bool.not_true, Bool.not_false, Bool.not_true]
      exact hK w' (hwd.trans hk')
    · rw [decide_eq_false hseen]
      unfold ptr
      simp only [e_fd, e_nck, e_pkt, e_pkf, e_gdtt, e_gdtf, e_gdft, e_gdff, e_ift, e_iff, e_not, e_ln, e_lnT, e_cp, e_cvi, e_ex20, e_ex21, e_ex30, e_ex31, e_ex32, e_add, e_sub, e_mul, e_quo, e_rem, e_and, e_or, e_xor, e_shl, e_shr, e_eql, e_neq, e_lss, e_leq, e_gtr, e_geq, e_beq, e_bne, e_peq1, e_peq2, e_pne1, e_pne2, e_zeq1, e_zeq2, e_zne1, e_zne2, e_feq1, e_fne1, e_feq2, e_fne2, e_seq, e_sne, e_ta1, e_ta2, Nat.zero_add, Nat.add_zero, Bool.not_true, Bool.not_false, Bool.not_false]
      refine ldn_r rc' (Nat.le_of_ble_eq_true rfl) ?_
      apply bdq_r rfl
      have e0 : atC now L a (fst1 now' a + (i : Nat)) = ⟨0, 0, 0, 0⟩ := by unfold atC; rw [if_neg hseen]
      rw [e0]
      refine ctr_neq (c := ⟨0, 0, 0, 0⟩) ?_
      simp only [e_fd, e_nck, e_pkt, e_pkf, e_gdtt, e_gdtf, e_gdft, e_gdff, e_ift, e_iff, e_not, e_ln, e_lnT, e_cp, e_cvi, e_ex20, e_ex21, e_ex30, e_ex31, e_ex32, e_add, e_sub, e_mul, e_quo, e_rem, e_and, e_or, e_xor, e_shl, e_shr, e_eql, e_neq, e_lss, e_leq, e_gtr, e_geq, e_beq, e_bne, e_peq1, e_peq2, e_pne1, e_pne2, e_zeq1, e_zeq2, e_zne1, e_zne2, e_feq1, e_fne1, e_feq2, e_fne2, e_seq, e_sne, e_ta1, e_ta2, Nat.zero_add, Nat.add_zero, Bool.not_true, Bool.not_false]
      exact hK w' (hwd.trans hk')
  have st : ∀ w' c19, Row w' c19 61 [I 0, I 0, I 0, I 0] → Kp (fun _ => False) (drw w) w' → (drw w).heap.size ≤ c19 →
      stn 4 (.pointer (some ⟨c19, 0, none⟩)) (.agg (atC now L a (fst1 now' a + (i : Nat))).cells.toArray) (fun w => s7_p5 K B1 B2 B3 t3 (ptr vb) (ptr vb') (I a) (ptr cb) (.pointer (some ⟨c19, 0, none⟩)) (.bool (decide (seen now a (fst1 now' a + (i : Nat))))) t25 t26 t27 (I 4) (I a) t126 (I (rlen a)) (I i) w) w' := by
    intro w' c19 r19 hk' hc19
    refine stn_r r19 rfl (Nat.le_of_ble_eq_true rfl) rfl fun w2 r2 hb2 hz2 => ?_
    exact fin w2 c19 r2 (hk'.then hb2 (by intro x hx (e : x = c19); omega))
  unfold s7_p6 s7_p6_d
  unfold ptr at st ⊢
  simp only [e_fd, e_nck, e_pkt, e_pkf, e_gdtt, e_gdtf, e_gdft, e_gdff, e_ift, e_iff, e_not, e_ln, e_lnT, e_cp, e_cvi, e_ex20, e_ex21, e_ex30, e_ex31, e_ex32, e_add, e_sub, e_mul, e_quo, e_rem, e_and, e_or, e_xor, e_shl, e_shr, e_eql, e_neq, e_lss, e_leq, e_gtr, e_geq, e_beq, e_bne, e_peq1, e_peq2, e_pne1, e_pne2, e_zeq1, e_zeq2, e_zne1, e_zne2, e_feq1, e_fne1, e_feq2, e_fne2, e_seq, e_sne, e_ta1, e_ta2, Nat.zero_add, Nat.add_zero, Bool.not_true, Bool.not_false]
  refine ldn_r (hwd.row' rv) (Nat.le_of_ble_eq_true rfl) ?_
  refine ld1_r (hwd.row' rv') rfl ?_
  refine ix1 (g := fun n : Int => I n) (fun _ => rfl) (hV'.kp hwd).f haf fun b l _ hr hg => ?_
  rw [vw_first haf] at hg
  refine ld1_r hr hg ?_
  simp only [e_fd, e_nck, e_pkt, e_pkf, e_gdtt, e_gdtf, e_gdft, e_gdff, e_ift, e_iff, e_not, e_ln, e_lnT, e_cp, e_cvi, e_ex20, e_ex21, e_ex30, e_ex31, e_ex32, e_add, e_sub, e_mul, e_quo, e_rem, e_and, e_or, e_xor, e_shl, e_shr, e_eql, e_neq, e_lss, e_leq, e_gtr, e_geq, e_beq, e_bne, e_peq1, e_peq2, e_pne1, e_pne2, e_zeq1, e_zeq2, e_zne1, e_zne2, e_feq1, e_fne1, e_feq2, e_fne2, e_seq, e_sne, e_ta1, e_ta2, Nat.zero_add, Nat.add_zero, Bool.not_true, Bool.not_false]
  rw [wrap64_id (by omega) (by omega)]
  have n1' : now ≤ 90 := by omega
  refine ⟨?_, ?_⟩
  · refine at_ok (hV.kp hwd) hcs n0 n1' ha ⟨by omega, by omega⟩ fun w1 hk1 => ?_
    simp only [e_fd, e_nck, e_pkt, e_pkf, e_gdtt, e_gdtf, e_gdft, e_gdff, e_ift, e_iff, e_not, e_ln, e_lnT, e_cp, e_cvi, e_ex20, e_ex21, e_ex30, e_ex31, e_ex32, e_add, e_sub, e_mul, e_quo, e_rem, e_and, e_or, e_xor, e_shl, e_shr, e_eql, e_neq, e_lss, e_leq, e_gtr, e_geq, e_beq, e_bne, e_peq1, e_peq2, e_pne1, e_pne2, e_zeq1, e_zeq2, e_zne1, e_zne2, e_feq1, e_fne1, e_feq2, e_fne2, e_seq, e_sne, e_ta1, e_ta2, Nat.zero_add, Nat.add_zero, Bool.not_true, Bool.not_false, and_self]
    have go : nw 61 #[(.int .i64 0), (.int .i64 0), (.int .i64 0), (.int .i64 0)] (fun t19 w' => Below (drw w).heap.size (drw w) w' ∧ stn 4 t19 (.agg (atC now L a (fst1 now' a + (i : Nat))).cells.toArray)
        (fun w => s7_p5 K B1 B2 B3 t3 (.pointer (some ⟨vb, 0, none⟩)) (.pointer (some ⟨vb', 0, none⟩)) (I a) (.pointer (some ⟨cb, 0, none⟩)) t19 (.bool (decide (seen now a (fst1 now' a + (i : Nat))))) t25 t26 t27 (I 4) (I a) t126 (I (rlen a)) (I i) w) w') w1 := by
      refine nw_r fun w2 r2 hb2 hz2 => ?_
      exact ⟨(hk1.trans hb2).below', st w2 _ r2 (hk1.trans hb2) hk1.size⟩
    exact go
  · refine nw_r fun w1 r1 hk1 hz1 => ?_
    refine ⟨hk1.below', ?_⟩
    refine at_ok ((hV.kp hwd).kp hk1) hcs n0 n1' ha ⟨by omega, by omega⟩ fun w2 hk2 => ?_
    simp only [e_fd, e_nck, e_pkt, e_pkf, e_gdtt, e_gdtf, e_gdft, e_gdff, e_ift, e_iff, e_not, e_ln, e_lnT, e_cp, e_cvi, e_ex20, e_ex21, e_ex30, e_ex31, e_ex32, e_add, e_sub, e_mul, e_quo, e_rem, e_and, e_or, e_xor, e_shl, e_shr, e_eql, e_neq, e_lss, e_leq, e_gtr, e_geq, e_beq, e_bne, e_peq1, e_peq2, e_pne1, e_pne2, e_zeq1, e_zeq2, e_zne1, e_zne2, e_feq1, e_fne1, e_feq2, e_fne2, e_seq, e_sne, e_ta1, e_ta2, Nat.zero_add, Nat.add_zero, Bool.not_true, Bool.not_false, and_self]
    exact st w2 _ (hk2.row' r1) (hk1.trans hk2) (Nat.le_refl _)
end
end Go.Proofs.Qxb6500897a
