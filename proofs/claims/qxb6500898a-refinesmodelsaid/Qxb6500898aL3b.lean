import Derived.Test.Qxb6500898aL3
namespace Go.Proofs.Qxb6500898a
open Go.Sh Go.RowKit
set_option linter.unusedVariables false
set_option linter.unusedSimpArgs false

section
variable {W w w' w0 w2 : World} {v d t wv rv mwv mrv dv t0 t1 t2 : Value} {ob wob mwb mrb mwb0 mrb0 : Option Nat} {mb mm t3 t4 b e m n i j k : Nat} {xs ys zs pr da X Y : List Int} {K : Value → World → Prop} {B1 : List Value → World → Prop} {S S' : Nat → Prop} {L : List Value} {q c z : Int} {little : Bool} {s s' s0 s1 s2 : Mst} {o : Op}
theorem ref_round {t6 b7 : Nat} {v7 t11 t12 : Value} (h : LR W w mb wob wv rv mm mwb mrb mwv mrv s j) (hj : j < 65536) (r6 : Row w t6 34 (opc dv o)) (hd : Bs W dv o.data) (hdl : o.data.length ≤ 65536) (wf : o.Wf) (s7 : Sl u1 1 w 5 (some b7) v7 o.data) (h7m : b7 ≠ mb) (h7w : ∀ b, wob = some b → b ≠ b7)
    (hB : ∀ w' wob' wv' rv' mwb' mrb' mwv' mrv' s', LR W w' mb wob' wv' rv' mm mwb' mrb' mwv' mrv' s' (j + 1) → B1 [Pt mb 0, Pt mm 0, t11, t12, I ((j + 1 : Nat) : Int)] w') : r3_p4 K B1 (Pt mb 0) (Pt mm 0) (Pt t6 0) v7 t11 t12 (I (j : Nat)) w := by
  unfold r3_p4
  have h := h.kp' (w' := drw w) kp_drw
  have r6 := kp_drw.row' r6
  have s7 := s7.kp' (w' := drw w) kp_drw
  generalize drw w = w at h r6 s7 ⊢
  have hlen := h.z.len
  refine ⟨fun w' => Row w' t6 34 (opc dv o), r6, ?_⟩
  unfold r3_p4_d
  refine ⟨.agg (opc dv o).toArray, fun w' hr => ldn_r hr (show 0 + 6 ≤ _ by simp [opc]) ⟨rfl, rfl⟩, ?_⟩
  refine ⟨.agg (opc dv o).toArray, fun w' hr => ldn_r hr (show 0 + 6 ≤ _ by simp [opc]) ⟨rfl, rfl⟩, ?_⟩
  refine step_ok h.z.ma hd hdl wf (by omega) ?_
  intro w1 wob1 wv1 rv1 s1 ok x dv1 dat m1 hst hl1 hbs1 hk1 ho1
  have nt : ∀ {b t l}, Row w b t l → t ≠ 28 → t ≠ 5 → ¬ (b = mb ∨ wob = some b) := fun hr h1 h2 q => by
    rcases q with q | q
    · exact row_ne hr h.z.ma.row h1 q
    · obtain ⟨l, hr'⟩ := h.z.ma.wk.row q; exact row_ne hr hr' h2 rfl
  have r61 := hk1.row r6 (nt r6 (by decide) (by decide))
  refine ⟨r61, ?_⟩
  have mm1 : Mm w1 mm mwb mrb mwv mrv s := h.m.kp hk1 (nt h.m.row (by decide) (by decide))
    (fun b hb q => by
      rcases q with q | q
      · obtain ⟨l, hr⟩ := h.m.wk.row hb; exact row_ne hr h.z.ma.row (by decide) q
      · exact (h.dw b q).1 hb)
    (fun b hb q => by
      rcases q with q | q
      · obtain ⟨l, hr⟩ := h.m.rd.row hb; exact row_ne hr h.z.ma.row (by decide) q
      · exact (h.dw b q).2 hb)
  have s71 : Sl u1 1 w1 5 (some b7) v7 o.data := s7.kp hk1 (fun b hb q => by
    cases hb
    rcases q with q | q
    · exact h7m q
    · exact h7w _ q rfl)
  refine mstep_ok mm1 m1.kp h.mz hd hdl wf (by omega) ?_
  intro w2 mwb2 mrb2 mwv2 mrv2 s2 ok2 x2 dv2 dat2 mm2 hst2 hbs2 hk2 hw2 hr2
  obtain ⟨rfl, rfl, rfl, rfl⟩ := stepR_det hst hst2
  have m2 : Ma W w2 mb wob1 wv1 rv1 s1 := m1.frame hk2 (fun (e : mb = mm) => row_ne m1.row mm1.row (by decide) e) (fun b l hr (e : b = mm) => row_ne hr mm1.row (by decide) e) (fun b (e : b = mm) => by have := h.mz; omega)
  have d12 := bs_nm hbs1 mm1 hk2
  have r62 := hk2.row r61 (fun (e : t6 = mm) => row_ne r61 mm1.row (by decide) e)
  have s72 := s71.kp hk2 (sl_nm s71 mm1.row (by decide))
  have dw2 : ∀ b, wob1 = some b → mwb2 ≠ some b ∧ mrb2 ≠ some b := by
    intro b hb
    have lt1 : b < w1.heap.size := by obtain ⟨l, hr⟩ := m1.wk.row hb; exact hr.lt
    have old : ∀ a a0 : Option Nat, Fr w1 a a0 → (∀ b, wob = some b → a0 ≠ some b) → (∀ c, a0 = some c → c < w.heap.size) → a ≠ some b := by
      intro a a0 hf h1 h2 e
      rcases hf with q | ⟨c, q, hc⟩
      · rw [q] at e
        rcases ho1 with q1 | ⟨c1, q1, hc1⟩
        · rw [q1] at hb; exact h1 b hb e
        · rw [q1] at hb; cases hb
          have := h2 _ e; omega
      · rw [q] at e; cases e; omega
    exact ⟨old _ _ hw2 (fun b hb => (h.dw b hb).1) (fun c hc => by obtain ⟨l, hr⟩ := h.m.wk.row hc; exact hr.lt), old _ _ hr2 (fun b hb => (h.dw b hb).2) (fun c hc => by obtain ⟨l, hr⟩ := h.m.rd.row hc; exact hr.lt)⟩
  have H : LR W w2 mb wob1 wv1 rv1 mm mwb2 mrb2 mwv2 mrv2 s1 (j + 1) := ⟨⟨m2, by omega⟩, mm2, h.mz, dw2⟩
  refine sameOut_ok (fun w' hk => d12.kp' hk) (fun w' hk => hbs2.kp' hk) fun w3 k3 => ?_
  simp only [Bool.not_true, e_fd, e_nck, e_pkt, e_pkf, e_gdtt, e_gdtf, e_gdft, e_gdff, e_ift, e_iff, e_not, e_ln, e_lnT, e_cp, e_cvi, e_ex20, e_ex21, e_ex30, e_ex31, e_ex32, e_add, e_sub, e_mul, e_quo, e_rem, e_and, e_or, e_xor, e_shl, e_shr, e_eql, e_neq, e_lss, e_leq, e_gtr, e_geq, e_beq, e_bne, e_peq1, e_peq2, e_pne1, e_pne2, e_zeq1, e_zeq2, e_zne1, e_zne2, e_feq1, e_fne1, e_feq2, e_fne2, e_seq, e_sne, e_ta1, e_ta2, Nat.zero_add, Nat.add_zero, Bool.not_true, Bool.not_false]
  unfold r3_p3
  try simp only [e_fd, e_nck, e_pkt, e_pkf, e_gdtt, e_gdtf, e_gdft, e_gdff, e_ift, e_iff, e_not, e_ln, e_lnT, e_cp, e_cvi, e_ex20, e_ex21, e_ex30, e_ex31, e_ex32, e_add, e_sub, e_mul, e_quo, e_rem, e_and, e_or, e_xor, e_shl, e_shr, e_eql, e_neq, e_lss, e_leq, e_gtr, e_geq, e_beq, e_bne, e_peq1, e_peq2, e_pne1, e_pne2, e_zeq1, e_zeq2, e_zne1, e_zne2, e_feq1, e_fne1, e_feq2, e_fne2, e_seq, e_sne, e_ta1, e_ta2, Nat.zero_add, Nat.add_zero, Bool.not_true, Bool.not_false]
  refine state_ok (H.kp' k3).z.ma fun w4 hk4 => ?_
  have k4 := k3.trans hk4
  refine stateM_ok (H.kp' k4).m fun w5 v5 b5 hk5 => ?_
  have k5 := k4.trans hk5
  refine sameState_ok (H.kp' k5).z.ma.wbs b5 fun w6 hk6 => ?_
  have k6 := k5.trans hk6
  simp only [Bool.not_true, e_fd, e_nck, e_pkt, e_pkf, e_gdtt, e_gdtf, e_gdft, e_gdff, e_ift, e_iff, e_not, e_ln, e_lnT, e_cp, e_cvi, e_ex20, e_ex21, e_ex30, e_ex31, e_ex32, e_add, e_sub, e_mul, e_quo, e_rem, e_and, e_or, e_xor, e_shl, e_shr, e_eql, e_neq, e_lss, e_leq, e_gtr, e_geq, e_beq, e_bne, e_peq1, e_peq2, e_pne1, e_pne2, e_zeq1, e_zeq2, e_zne1, e_zne2, e_feq1, e_fne1, e_feq2, e_fne2, e_seq, e_sne, e_ta1, e_ta2, Nat.zero_add, Nat.add_zero, Bool.not_true, Bool.not_false]
  refine ld1_r (k6.row' r62) rfl ?_
  have H6 := H.kp' k6
  refine same_self (hd.kp' H6.z.ma.kp) (sl_bs (s72.kp' k6) hd.by_ (by omega)) fun w7 hk7 => ?_
  simp only [Bool.not_true, e_fd, e_nck, e_pkt, e_pkf, e_gdtt, e_gdtf, e_gdft, e_gdff, e_ift, e_iff, e_not, e_ln, e_lnT, e_cp, e_cvi, e_ex20, e_ex21, e_ex30, e_ex31, e_ex32, e_add, e_sub, e_mul, e_quo, e_rem, e_and, e_or, e_xor, e_shl, e_shr, e_eql, e_neq, e_lss, e_leq, e_gtr, e_geq, e_beq, e_bne, e_peq1, e_peq2, e_pne1, e_pne2, e_zeq1, e_zeq2, e_zne1, e_zne2, e_feq1, e_fne1, e_feq2, e_fne2, e_seq, e_sne, e_ta1, e_ta2, Nat.zero_add, Nat.add_zero, Bool.not_true, Bool.not_false]
  unfold r3_p2
  try simp only [e_fd, e_nck, e_pkt, e_pkf, e_gdtt, e_gdtf, e_gdft, e_gdff, e_ift, e_iff, e_not, e_ln, e_lnT, e_cp, e_cvi, e_ex20, e_ex21, e_ex30, e_ex31, e_ex32, e_add, e_sub, e_mul, e_quo, e_rem, e_and, e_or, e_xor, e_shl, e_shr, e_eql, e_neq, e_lss, e_leq, e_gtr, e_geq, e_beq, e_bne, e_peq1, e_peq2, e_pne1, e_pne2, e_zeq1, e_zeq2, e_zne1, e_zne2, e_feq1, e_fne1, e_feq2, e_fne2, e_seq, e_sne, e_ta1, e_ta2, Nat.zero_add, Nat.add_zero, Bool.not_true, Bool.not_false]
  rw [wrap64_id (by omega) (by omega)]
  exact hB w7 _ _ _ _ _ _ _ _ (H6.kp' hk7)
theorem law3_loop {ops : List Op} (hs : Scr W v ops) (hl : ops.length ≤ 65536) (hall : ∀ x ∈ ops, x.data.length ≤ 65536) (h : LR W w mb wob wv rv mm mwb mrb mwv mrv s 0) (hK : ∀ w', Kp (fun _ => False) W w' → K (.bool true) w') : r3_p7 K (Pt mb 0) (Pt mm 0) v (I ops.length) (I (0 : Nat)) w := by
  unfold r3_p7
  refine ⟨fun n l w' => ∃ (j : Nat) (wob : Option Nat) (wv rv : Value) (mwb mrb : Option Nat) (mwv mrv : Value) (s : Mst), n + j = ops.length ∧ l = [Pt mb 0, Pt mm 0, v, I ops.length, I (j : Nat)] ∧ LR W w' mb wob wv rv mm mwb mrb mwv mrv s j, ops.length, ⟨0, wob, wv, rv, mwb, mrb, mwv, mrv, s, rfl, rfl, h⟩, ?_⟩
  rintro n l w1 ⟨j, wob, wv, rv, mwb, mrb, mwv, mrv, s, hn, rfl, h1⟩
  rw [r3_p7_Fe]
  unfold r3_p6
  try simp only [e_fd, e_nck, e_pkt, e_pkf, e_gdtt, e_gdtf, e_gdft, e_gdff, e_ift, e_iff, e_not, e_ln, e_lnT, e_cp, e_cvi, e_ex20, e_ex21, e_ex30, e_ex31, e_ex32, e_add, e_sub, e_mul, e_quo, e_rem, e_and, e_or, e_xor, e_shl, e_shr, e_eql, e_neq, e_lss, e_leq, e_gtr, e_geq, e_beq, e_bne, e_peq1, e_peq2, e_pne1, e_pne2, e_zeq1, e_zeq2, e_zne1, e_zne2, e_feq1, e_fne1, e_feq2, e_fne2, e_seq, e_sne, e_ta1, e_ta2, Nat.zero_add, Nat.add_zero, Bool.not_true, Bool.not_false]
  by_cases hj : j < ops.length
  · have hj' : ((j : Nat) : Int) < ((ops.length : Nat) : Int) := by omega
    simp only [hj', decide_true, e_fd, e_nck, e_pkt, e_pkf, e_gdtt, e_gdtf, e_gdft, e_gdff, e_ift, e_iff, e_not, e_ln, e_lnT, e_cp, e_cvi, e_ex20, e_ex21, e_ex30, e_ex31, e_ex32, e_add, e_sub, e_mul, e_quo, e_rem, e_and, e_or, e_xor, e_shl, e_shr, e_eql, e_neq, e_lss, e_leq, e_gtr, e_geq, e_beq, e_bne, e_peq1, e_peq2, e_pne1, e_pne2, e_zeq1, e_zeq2, e_zne1, e_zne2, e_feq1, e_fne1, e_feq2, e_fne2, e_seq, e_sne, e_ta1, e_ta2, Nat.zero_add, Nat.add_zero, Bool.not_true, Bool.not_false]
    unfold r3_p5
    refine hs.take h1.z.ma.kp.below' hj fun w2 b dv hb2 r2 hk2 hd hwf hsc => ?_
    have hdl := hall _ (List.getElem_mem hj)
    try simp only [e_fd, e_nck, e_pkt, e_pkf, e_gdtt, e_gdtf, e_gdft, e_gdff, e_ift, e_iff, e_not, e_ln, e_lnT, e_cp, e_cvi, e_ex20, e_ex21, e_ex30, e_ex31, e_ex32, e_add, e_sub, e_mul, e_quo, e_rem, e_and, e_or, e_xor, e_shl, e_shr, e_eql, e_neq, e_lss, e_leq, e_gtr, e_geq, e_beq, e_bne, e_peq1, e_peq2, e_pne1, e_pne2, e_zeq1, e_zeq2, e_zne1, e_zne2, e_feq1, e_fne1, e_feq2, e_fne2, e_seq, e_sne, e_ta1, e_ta2, Nat.zero_add, Nat.add_zero, Bool.not_true, Bool.not_false]
    refine ld1_r r2 rfl ?_
    have h2 := h1.kp' hk2
    refine copy_ok (hd.kp' h2.z.ma.kp) (by omega) fun w3 b7 v7 s7 hb7 hk3 => ?_
    have h3 := h2.kp' hk3
    have lt := h2.z.ma.row.lt
    refine ref_round (t11 := v) (t12 := I ops.length) h3 (by omega) (hk3.row' r2) hd hdl hwf s7 (by omega) (fun b hb e => by obtain ⟨l, hr⟩ := h2.z.ma.wk.row hb; have := hr.lt; omega) fun w4 wob4 wv4 rv4 mwb4 mrb4 mwv4 mrv4 s4 h4 => ?_
    exact ⟨n - 1, by omega, j + 1, wob4, wv4, rv4, mwb4, mrb4, mwv4, mrv4, s4, by omega, rfl, h4⟩
  · have hj' : ¬ ((j : Nat) : Int) < ((ops.length : Nat) : Int) := by omega
    simp only [hj', decide_false, e_fd, e_nck, e_pkt, e_pkf, e_gdtt, e_gdtf, e_gdft, e_gdff, e_ift, e_iff, e_not, e_ln, e_lnT, e_cp, e_cvi, e_ex20, e_ex21, e_ex30, e_ex31, e_ex32, e_add, e_sub, e_mul, e_quo, e_rem, e_and, e_or, e_xor, e_shl, e_shr, e_eql, e_neq, e_lss, e_leq, e_gtr, e_geq, e_beq, e_bne, e_peq1, e_peq2, e_pne1, e_pne2, e_zeq1, e_zeq2, e_zne1, e_zne2, e_feq1, e_fne1, e_feq2, e_fne2, e_seq, e_sne, e_ta1, e_ta2, Nat.zero_add, Nat.add_zero, Bool.not_true, Bool.not_false]
    unfold r3_p1
    exact hK w1 h1.z.ma.kp
theorem law3_ok {ops : List Op} (hs : Scr W v ops) : cl Try.prog 3 #[v] (fun r w' => r = .bool true ∧ Below W.heap.size W w') W := by
  apply cr3
  unfold r3_p8
  refine small_ok hs (Below.refl _ _) fun r hr => ?_
  cases r with
  | false =>
    simp only [Bool.not_false, e_fd, e_nck, e_pkt, e_pkf, e_gdtt, e_gdtf, e_gdft, e_gdff, e_ift, e_iff, e_not, e_ln, e_lnT, e_cp, e_cvi, e_ex20, e_ex21, e_ex30, e_ex31, e_ex32, e_add, e_sub, e_mul, e_quo, e_rem, e_and, e_or, e_xor, e_shl, e_shr, e_eql, e_neq, e_lss, e_leq, e_gtr, e_geq, e_beq, e_bne, e_peq1, e_peq2, e_pne1, e_pne2, e_zeq1, e_zeq2, e_zne1, e_zne2, e_feq1, e_fne1, e_feq2, e_fne2, e_seq, e_sne, e_ta1, e_ta2, Nat.zero_add, Nat.add_zero, Bool.not_true, Bool.not_false]
    exact ⟨trivial, Below.refl _ _⟩
  | true =>
    obtain ⟨hl, hall⟩ := hr rfl
    simp only [Bool.not_true, e_fd, e_nck, e_pkt, e_pkf, e_gdtt, e_gdtf, e_gdft, e_gdff, e_ift, e_iff, e_not, e_ln, e_lnT, e_cp, e_cvi, e_ex20, e_ex21, e_ex30, e_ex31, e_ex32, e_add, e_sub, e_mul, e_quo, e_rem, e_and, e_or, e_xor, e_shl, e_shr, e_eql, e_neq, e_lss, e_leq, e_gtr, e_geq, e_beq, e_bne, e_peq1, e_peq2, e_pne1, e_pne2, e_zeq1, e_zeq2, e_zne1, e_zne2, e_feq1, e_fne1, e_feq2, e_fne2, e_seq, e_sne, e_ta1, e_ta2, Nat.zero_add, Nat.add_zero, Bool.not_true, Bool.not_false]
    refine nw_r fun w1 r1 hk1 hz1 => ?_
    refine nw_r fun w2 r2 hk2 hz2 => ?_
    refine hs.ln ?_
    have z0 := LZ.start hk1 r1 (Nat.le_refl _)
    refine law3_loop (mwb := none) (mrb := none) hs hl hall ⟨z0.kp' hk2, ⟨r2, ⟨rfl, rfl⟩, ⟨rfl, rfl⟩, fun x hx => (by cases hx), Nat.zero_le _, fun x hx => (by cases hx), Nat.zero_le _, Nat.le_refl _⟩, hk1.size, fun b hb => (by cases hb)⟩ fun w' hk => ⟨rfl, hk.below'⟩
theorem law3_walk {ops : List Op} (hs : Scr W v ops) : Calls Try.prog 3 #[v] W fun e w' => e = .returned (.bool true) ∧ Below W.heap.size W w' :=
  Calls.mono (law3_ok hs) fun e w' ⟨r, he, hr, hb⟩ => ⟨by rw [he, hr], hb⟩
end
end Go.Proofs.Qxb6500898a
