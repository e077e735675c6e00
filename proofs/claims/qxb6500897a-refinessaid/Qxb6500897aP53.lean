import Derived.Test.Qxb6500897aP52
namespace Go.Proofs.Qxb6500897a
open Go.Sh Go.RowKit
set_option linter.unusedVariables false
set_option linter.unusedSimpArgs false

/-- the tables and the model side by side -/
structure MS (W w : World) (d tb m ab : Nat) (now : Int) (ts : List Tab) (L : List Ent) (ob : Option Nat) (lv : Value) : Prop where
  st : St W w d tb now ts L
  mod : ModAt w m ab now L ob lv
  hm : W.heap.size ≤ m
  hob : ∀ b, ob = some b → W.heap.size ≤ b

section
variable {W w w' : World} {d tb m ab : Nat} {now : Int} {ts : List Tab} {L : List Ent} {ob : Option Nat} {lv : Value} {K : Value → World → Prop}
theorem MS.kp (h : MS W w d tb m ab now ts L ob lv) (hk : Kp (fun _ => False) w w') : MS W w' d tb m ab now ts L ob lv := ⟨h.st.kp hk, h.mod.kp hk, h.hm, h.hob⟩

/-- a step of the tables leaves the model alone -/
theorem ModAt.play (h : ModAt w m ab now L ob lv) (ht : Tabs w d tb 6 90 now ts) (hk : Kp (fun k => k = d ∨ k ∈ blks ts) w w') : ModAt w' m ab now L ob lv := by
  refine h.kpS hk fun k t l s hr => ?_
  have no : t ≠ 98 → t ≠ 102 → t ≠ 3 → False := by
    intro h1 h2 h3
    have := ht.not hr h1 h2 h3
    rcases s with s | s
    · exact this.1 s
    · exact this.2.2 s
  refine ⟨fun e => no ?_ ?_ ?_, fun e => no ?_ ?_ ?_, fun e => no ?_ ?_ ?_⟩ <;> subst e <;> decide

/-- the model's step behind the tables' -/
theorem MS.both {o : Op} (h : MS W w d tb m ab now ts L ob lv) (ho : o.Wf) (hl : L.length + 1 ≤ 65536) {w1 : World} (h1 : St W w1 d tb (stepP now ts o).now (stepP now ts o).ts (stepL now L o)) (hk1 : Kp (fun k => k = d ∨ k ∈ blks ts) w w1)
    (hK : ∀ w' ob' lv', MS W w' d tb m ab (stepP now ts o).now (stepP now ts o).ts (stepL now L o) ob' lv' → (∀ b l, Row w1 b 34 l → Row w' b 34 l) → K (.tuple #[I (stepP now ts o).code, I (stepP now ts o).val]) w') :
    cl Try.prog 18 #[ptr m, .agg o.cells.toArray] K w1 := by
  have hM1 := h.mod.play h.st.tabs hk1
  have hz := h1.bel.size
  refine playModel_ok hM1 h.st.good ho hl fun w2 ob' lv' hM2 hob2 hk2 => ?_
  have types : ∀ q, (q = m ∨ ob = some q) → ∃ t l, Row w1 q t l ∧ (t = 48 ∨ t = 105) := by
    intro q e
    rcases e with e | e
    · subst e; exact ⟨_, _, hM1.top, .inl rfl⟩
    · obtain ⟨l, hr⟩ := hM1.led.row e; exact ⟨_, _, hr, .inr rfl⟩
  refine hK w2 ob' lv' ⟨h1.kpS hk2 fun q e => ?_, ⟨hM2.top, hM2.atts, hM2.led, h1.good.inv, h.mod.bnd.step h.mod.inv o, ?_⟩, h.hm, fun b hb => ?_⟩ fun b l hr => ?_
  · obtain ⟨t, l, hr, ht⟩ := types q e
    refine ⟨?_, h1.tabs.not hr (by rcases ht with rfl | rfl <;> decide) (by rcases ht with rfl | rfl <;> decide) (by rcases ht with rfl | rfl <;> decide)⟩
    rcases e with e | e
    · rw [e]; exact h.hm
    · exact h.hob q e
  · have := stepL_len now L o; omega
  · rcases hob2 with e | ⟨c, e, hc⟩
    · exact h.hob b (e ▸ hb)
    · rw [e] at hb
      have : c = b := by simpa using hb
      omega
  · refine hk2.row hr fun e => ?_
    obtain ⟨t, l', hr', ht⟩ := types b e
    rcases ht with rfl | rfl
    · exact row_ne hr hr' (by decide) rfl
    · exact row_ne hr hr' (by decide) rfl
end

/-! ### OccupancyIsSumOfAdmissions -/
section
variable {W w0 w : World} {d tb m ab : Nat} {now : Int} {ts : List Tab} {L : List Ent} {ob : Option Nat} {lv : Value} {K : Value → World → Prop} {B1 B2 : List Value → World → Prop} {v ln ii : Value}

theorem occ_slots {a : Nat} (h : MS W w0 d tb m ab now ts L ob lv) (ha : a < 4) (hw : Kp (fun _ => False) w0 w)
    (hK : ∀ w', Kp (fun _ => False) w0 w' → s4_p3 K B1 B2 (ptr d) (ptr m) v ln ii (I 4) (I a) w') :
    s4_p5 K B1 B2 (ptr d) (ptr m) (I a) (I (now + 5 + (dw a - 1))) (I (fst1 now a)) v ln ii (I 4) (I a) w := by
  have n0 := h.mod.inv.n0
  have n1 := h.mod.inv.n1
  have hb := pa_bd a
  have hdw : (pa a).dwell = dw a := rfl
  have hf1 : fst1 now a = now - (dw a - 1) := rfl
  refine ⟨fun q l w => ∃ s : Int, fst1 now a ≤ s ∧ s ≤ now + 5 + (dw a - 1) + 1 ∧ q = (now + 5 + (dw a - 1) + 1 - s).toNat ∧ Kp (fun _ => False) w0 w ∧ l = [ptr d, ptr m, I a, I (now + 5 + (dw a - 1)), I s, v, ln, ii, I 4, I a],
    _, ⟨fst1 now a, by omega, by omega, rfl, hw, rfl⟩, ?_⟩
  rintro q l w ⟨s, s0, s1, hq, hw, rfl⟩
  rw [s4_p5_Fe]
  unfold s4_p4
  simp only [e_fd, e_nck, e_pkt, e_pkf, e_gdtt, e_gdtf, e_gdft, e_gdff, e_ift, e_iff, e_not, e_ln, e_lnT, e_cp, e_cvi, e_ex20, e_ex21, e_ex30, e_ex31, e_ex32, e_add, e_sub, e_mul, e_quo, e_rem, e_and, e_or, e_xor, e_shl, e_shr, e_eql, e_neq, e_lss, e_leq, e_gtr, e_geq, e_beq, e_bne, e_peq1, e_peq2, e_pne1, e_pne2, e_zeq1, e_zeq2, e_zne1, e_zne2, e_feq1, e_fne1, e_feq2, e_fne2, e_seq, e_sne, e_ta1, e_ta2, Nat.zero_add, Nat.add_zero, Bool.not_true, Bool.not_false]
  by_cases hle : s ≤ now + 5 + (dw a - 1)
  · simp only [hle, decide_true, e_fd, e_nck, e_pkt, e_pkf, e_gdtt, e_gdtf, e_gdft, e_gdff, e_ift, e_iff, e_not, e_ln, e_lnT, e_cp, e_cvi, e_ex20, e_ex21, e_ex30, e_ex31, e_ex32, e_add, e_sub, e_mul, e_quo, e_rem, e_and, e_or, e_xor, e_shl, e_shr, e_eql, e_neq, e_lss, e_leq, e_gtr, e_geq, e_beq, e_bne, e_peq1, e_peq2, e_pne1, e_pne2, e_zeq1, e_zeq2, e_zne1, e_zne2, e_feq1, e_fne1, e_feq2, e_fne2, e_seq, e_sne, e_ta1, e_ta2, Nat.zero_add, Nat.add_zero, Bool.not_true, Bool.not_false]
    refine (h.st.kp hw).occ ha s0 hle fun w1 hk1 => ?_
    simp only [e_fd, e_nck, e_pkt, e_pkf, e_gdtt, e_gdtf, e_gdft, e_gdff, e_ift, e_iff, e_not, e_ln, e_lnT, e_cp, e_cvi, e_ex20, e_ex21, e_ex30, e_ex31, e_ex32, e_add, e_sub, e_mul, e_quo, e_rem, e_and, e_or, e_xor, e_shl, e_shr, e_eql, e_neq, e_lss, e_leq, e_gtr, e_geq, e_beq, e_bne, e_peq1, e_peq2, e_pne1, e_pne2, e_zeq1, e_zeq2, e_zne1, e_zne2, e_feq1, e_fne1, e_feq2, e_fne2, e_seq, e_sne, e_ta1, e_ta2, Nat.zero_add, Nat.add_zero, Bool.not_true, Bool.not_false]
    refine inside_ok ((h.mod.kp hw).kp hk1) ha fun w2 hk2 => ?_
    have ene : (ins L a (dw a) s != ins L a (dw a) s) = false := by simp
    simp only [ene, e_fd, e_nck, e_pkt, e_pkf, e_gdtt, e_gdtf, e_gdft, e_gdff, e_ift, e_iff, e_not, e_ln, e_lnT, e_cp, e_cvi, e_ex20, e_ex21, e_ex30, e_ex31, e_ex32, e_add, e_sub, e_mul, e_quo, e_rem, e_and, e_or, e_xor, e_shl, e_shr, e_eql, e_neq, e_lss, e_leq, e_gtr, e_geq, e_beq, e_bne, e_peq1, e_peq2, e_pne1, e_pne2, e_zeq1, e_zeq2, e_zne1, e_zne2, e_feq1, e_fne1, e_feq2, e_fne2, e_seq, e_sne, e_ta1, e_ta2, Nat.zero_add, Nat.add_zero, Bool.not_true, Bool.not_false]
    rw [wrap64_id (by omega) (by omega)]
    exact ⟨(now + 5 + (dw a - 1) + 1 - (s + 1)).toNat, by omega, s + 1, by omega, by omega, rfl, (hw.trans hk1).trans hk2, rfl⟩
  · simp only [hle, decide_false, e_fd, e_nck, e_pkt, e_pkf, e_gdtt, e_gdtf, e_gdft, e_gdff, e_ift, e_iff, e_not, e_ln, e_lnT, e_cp, e_cvi, e_ex20, e_ex21, e_ex30, e_ex31, e_ex32, e_add, e_sub, e_mul, e_quo, e_rem, e_and, e_or, e_xor, e_shl, e_shr, e_eql, e_neq, e_lss, e_leq, e_gtr, e_geq, e_beq, e_bne, e_peq1, e_peq2, e_pne1, e_pne2, e_zeq1, e_zeq2, e_zne1, e_zne2, e_feq1, e_fne1, e_feq2, e_fne2, e_seq, e_sne, e_ta1, e_ta2, Nat.zero_add, Nat.add_zero, Bool.not_true, Bool.not_false]
    exact hK w hw

theorem occ_atts (h : MS W w0 d tb m ab now ts L ob lv) (hw : Kp (fun _ => False) w0 w)
    (hK : ∀ w', Kp (fun _ => False) w0 w' → s4_p2 K B1 (ptr d) (ptr m) v ln ii w') :
    s4_p8 K B1 (ptr d) (ptr m) v ln ii (I 4) (I 0) w := by
  refine ⟨fun q l w => ∃ a : Nat, a ≤ 4 ∧ q = 4 - a ∧ Kp (fun _ => False) w0 w ∧ l = [ptr d, ptr m, v, ln, ii, I 4, I a],
    4, ⟨0, by omega, by omega, hw, rfl⟩, ?_⟩
  rintro q l w ⟨a, ha, hq, hw, rfl⟩
  rw [s4_p8_Fe]
  unfold s4_p7
  simp only [e_fd, e_nck, e_pkt, e_pkf, e_gdtt, e_gdtf, e_gdft, e_gdff, e_ift, e_iff, e_not, e_ln, e_lnT, e_cp, e_cvi, e_ex20, e_ex21, e_ex30, e_ex31, e_ex32, e_add, e_sub, e_mul, e_quo, e_rem, e_and, e_or, e_xor, e_shl, e_shr, e_eql, e_neq, e_lss, e_leq, e_gtr, e_geq, e_beq, e_bne, e_peq1, e_peq2, e_pne1, e_pne2, e_zeq1, e_zeq2, e_zne1, e_zne2, e_feq1, e_fne1, e_feq2, e_fne2, e_seq, e_sne, e_ta1, e_ta2, Nat.zero_add, Nat.add_zero, Bool.not_true, Bool.not_false]
  by_cases hlt : a < 4
  · have hlt' : (a : Int) < 4 := by omega
    simp only [hlt', decide_true, e_fd, e_nck, e_pkt, e_pkf, e_gdtt, e_gdtf, e_gdft, e_gdff, e_ift, e_iff, e_not, e_ln, e_lnT, e_cp, e_cvi, e_ex20, e_ex21, e_ex30, e_ex31, e_ex32, e_add, e_sub, e_mul, e_quo, e_rem, e_and, e_or, e_xor, e_shl, e_shr, e_eql, e_neq, e_lss, e_leq, e_gtr, e_geq, e_beq, e_bne, e_peq1, e_peq2, e_pne1, e_pne2, e_zeq1, e_zeq2, e_zne1, e_zne2, e_feq1, e_fne1, e_feq2, e_fne2, e_seq, e_sne, e_ta1, e_ta2, Nat.zero_add, Nat.add_zero, Bool.not_true, Bool.not_false]
    unfold s4_p6
    refine (h.st.kp hw).win hlt fun w1 hk1 => ?_
    simp only [e_fd, e_nck, e_pkt, e_pkf, e_gdtt, e_gdtf, e_gdft, e_gdff, e_ift, e_iff, e_not, e_ln, e_lnT, e_cp, e_cvi, e_ex20, e_ex21, e_ex30, e_ex31, e_ex32, e_add, e_sub, e_mul, e_quo, e_rem, e_and, e_or, e_xor, e_shl, e_shr, e_eql, e_neq, e_lss, e_leq, e_gtr, e_geq, e_beq, e_bne, e_peq1, e_peq2, e_pne1, e_pne2, e_zeq1, e_zeq2, e_zne1, e_zne2, e_feq1, e_fne1, e_feq2, e_fne2, e_seq, e_sne, e_ta1, e_ta2, Nat.zero_add, Nat.add_zero, Bool.not_true, Bool.not_false]
    refine occ_slots h hlt (hw.trans hk1) fun w2 hk2 => ?_
    unfold s4_p3
    simp only [e_fd, e_nck, e_pkt, e_pkf, e_gdtt, e_gdtf, e_gdft, e_gdff, e_ift, e_iff, e_not, e_ln, e_lnT, e_cp, e_cvi, e_ex20, e_ex21, e_ex30, e_ex31, e_ex32, e_add, e_sub, e_mul, e_quo, e_rem, e_and, e_or, e_xor, e_shl, e_shr, e_eql, e_neq, e_lss, e_leq, e_gtr, e_geq, e_beq, e_bne, e_peq1, e_peq2, e_pne1, e_pne2, e_zeq1, e_zeq2, e_zne1, e_zne2, e_feq1, e_fne1, e_feq2, e_fne2, e_seq, e_sne, e_ta1, e_ta2, Nat.zero_add, Nat.add_zero, Bool.not_true, Bool.not_false]
    rw [wrap64_id (by omega) (by omega)]
    exact ⟨4 - (a + 1), by omega, a + 1, by omega, rfl, hk2, by simp⟩
  · have hlt' : ¬ (a : Int) < 4 := by omega
    simp only [hlt', decide_false, e_fd, e_nck, e_pkt, e_pkf, e_gdtt, e_gdtf, e_gdft, e_gdff, e_ift, e_iff, e_not, e_ln, e_lnT, e_cp, e_cvi, e_ex20, e_ex21, e_ex30, e_ex31, e_ex32, e_add, e_sub, e_mul, e_quo, e_rem, e_and, e_or, e_xor, e_shl, e_shr, e_eql, e_neq, e_lss, e_leq, e_gtr, e_geq, e_beq, e_bne, e_peq1, e_peq2, e_pne1, e_pne2, e_zeq1, e_zeq2, e_zne1, e_zne2, e_feq1, e_fne1, e_feq2, e_fne2, e_seq, e_sne, e_ta1, e_ta2, Nat.zero_add, Nat.add_zero, Bool.not_true, Bool.not_false]
    exact hK w hw

theorem occ_round {ops : List Op} {i : Nat} (hs : Scr W v ops) (hlt : i < ops.length) (h0 : MS W w d tb m ab now ts L ob lv) (hl : L.length + 1 ≤ 65536)
    (hK : ∀ w' now' ts' L' ob' lv', MS W w' d tb m ab now' ts' L' ob' lv' → L'.length ≤ L.length + 1 → s4_p2 K B1 (ptr d) (ptr m) v ln (I i) w') : s4_p9 K B1 (ptr d) (ptr m) v ln (I i) w := by
  unfold s4_p9
  refine hs.take h0.st.bel hlt fun w1 b hr hb1 hbb => ?_
  have h1 := h0.kp hb1
  have ho := hs.1 _ (List.getElem_mem hlt)
  generalize hgo : ops[i] = o at *
  refine ldn_r hr (Nat.le_of_ble_eq_true rfl) ?_
  refine play_st (o := o) h1.st fun w2 h2 hk2 => ?_
  have hr2 := h1.st.tabs.notP hr (by decide) (by decide) (by decide) hk2
  refine ldn_r hr2 (Nat.le_of_ble_eq_true rfl) ?_
  refine h1.both ho hl h2 hk2 fun w3 ob' lv' h3 _ => ?_
  unfold ptr
  simp only [e_fd, e_nck, e_pkt, e_pkf, e_gdtt, e_gdtf, e_gdft, e_gdff, e_ift, e_iff, e_not, e_ln, e_lnT, e_cp, e_cvi, e_ex20, e_ex21, e_ex30, e_ex31, e_ex32, e_add, e_sub, e_mul, e_quo, e_rem, e_and, e_or, e_xor, e_shl, e_shr, e_eql, e_neq, e_lss, e_leq, e_gtr, e_geq, e_beq, e_bne, e_peq1, e_peq2, e_pne1, e_pne2, e_zeq1, e_zeq2, e_zne1, e_zne2, e_feq1, e_fne1, e_feq2, e_fne2, e_seq, e_sne, e_ta1, e_ta2, Nat.zero_add, Nat.add_zero, Bool.not_true, Bool.not_false]
  refine ld1_r h3.mod.top rfl ?_
  simp only [e_fd, e_nck, e_pkt, e_pkf, e_gdtt, e_gdtf, e_gdft, e_gdff, e_ift, e_iff, e_not, e_ln, e_lnT, e_cp, e_cvi, e_ex20, e_ex21, e_ex30, e_ex31, e_ex32, e_add, e_sub, e_mul, e_quo, e_rem, e_and, e_or, e_xor, e_shl, e_shr, e_eql, e_neq, e_lss, e_leq, e_gtr, e_geq, e_beq, e_bne, e_peq1, e_peq2, e_pne1, e_pne2, e_zeq1, e_zeq2, e_zne1, e_zne2, e_feq1, e_fne1, e_feq2, e_fne2, e_seq, e_sne, e_ta1, e_ta2, Nat.zero_add, Nat.add_zero, Bool.not_true, Bool.not_false]
  exact occ_atts h3 (Kp.refl _ _) fun w4 hk4 => hK _ _ _ _ _ _ (h3.kp hk4) (stepL_len now L o)
end

theorem occ_law {W : World} {v : Value} {ops : List Op} (hs : Scr W v ops) : cl Try.prog 4 #[v] (fun r w' => r = .bool true ∧ Below W.heap.size W w') W := by
  apply c4
  unfold s4_p12
  refine small_ok hs ?_
  simp only [e_fd, e_nck, e_pkt, e_pkf, e_gdtt, e_gdtf, e_gdft, e_gdff, e_ift, e_iff, e_not, e_ln, e_lnT, e_cp, e_cvi, e_ex20, e_ex21, e_ex30, e_ex31, e_ex32, e_add, e_sub, e_mul, e_quo, e_rem, e_and, e_or, e_xor, e_shl, e_shr, e_eql, e_neq, e_lss, e_leq, e_gtr, e_geq, e_beq, e_bne, e_peq1, e_peq2, e_pne1, e_pne2, e_zeq1, e_zeq2, e_zne1, e_zne2, e_feq1, e_fne1, e_feq2, e_fne2, e_seq, e_sne, e_ta1, e_ta2, Nat.zero_add, Nat.add_zero, Bool.not_true, Bool.not_false]
  by_cases hsm : ops.length ≤ 65536
  · rw [decide_eq_true hsm]
    simp only [Bool.not_true, e_fd, e_nck, e_pkt, e_pkf, e_gdtt, e_gdtf, e_gdft, e_gdff, e_ift, e_iff, e_not, e_ln, e_lnT, e_cp, e_cvi, e_ex20, e_ex21, e_ex30, e_ex31, e_ex32, e_add, e_sub, e_mul, e_quo, e_rem, e_and, e_or, e_xor, e_shl, e_shr, e_eql, e_neq, e_lss, e_leq, e_gtr, e_geq, e_beq, e_bne, e_peq1, e_peq2, e_pne1, e_pne2, e_zeq1, e_zeq2, e_zne1, e_zne2, e_feq1, e_fne1, e_feq2, e_fne2, e_seq, e_sne, e_ta1, e_ta2, Nat.zero_add, Nat.add_zero, Bool.not_true, Bool.not_false]
    refine fresh_st fun w0 d tb ts0 h0 hk0 hd0 => ?_
    refine park_ok fun w1 ab hab r1 hb1 => ?_
    refine mnew_ok r1 fun w2 m hm hb2 hmz => ?_
    have hz0 := hk0.size
    have hz1 := hb1.size
    have hS0 : MS W w2 d tb m ab 0 ts0 [] none (.slice none 0 0) := ⟨(h0.kp hb1).kp hb2, hm, by omega, by simp⟩
    refine hs.ln ?_
    refine ⟨fun q l w => ∃ (i : Nat) (now : Int) (ts : List Tab) (L : List Ent) (ob : Option Nat) (lv : Value), i ≤ ops.length ∧ q = ops.length - i ∧ L.length ≤ i ∧ l = [ptr d, ptr m, v, I ops.length, I i] ∧ MS W w d tb m ab now ts L ob lv,
      ops.length, ⟨0, 0, ts0, [], none, _, by omega, by omega, by simp, rfl, hS0⟩, ?_⟩
    rintro q l w ⟨i, now, ts, L, ob, lv, hi, hq, hLi, rfl, h⟩
    rw [s4_p11_Fe]
    unfold s4_p10
    simp only [e_fd, e_nck, e_pkt, e_pkf, e_gdtt, e_gdtf, e_gdft, e_gdff, e_ift, e_iff, e_not, e_ln, e_lnT, e_cp, e_cvi, e_ex20, e_ex21, e_ex30, e_ex31, e_ex32, e_add, e_sub, e_mul, e_quo, e_rem, e_and, e_or, e_xor, e_shl, e_shr, e_eql, e_neq, e_lss, e_leq, e_gtr, e_geq, e_beq, e_bne, e_peq1, e_peq2, e_pne1, e_pne2, e_zeq1, e_zeq2, e_zne1, e_zne2, e_feq1, e_fne1, e_feq2, e_fne2, e_seq, e_sne, e_ta1, e_ta2, Nat.zero_add, Nat.add_zero, Bool.not_true, Bool.not_false]
    by_cases hlt : i < ops.length
    · have hlt' : (i : Int) < (ops.length : Int) := by omega
      simp only [hlt', decide_true, e_fd, e_nck, e_pkt, e_pkf, e_gdtt, e_gdtf, e_gdft, e_gdff, e_ift, e_iff, e_not, e_ln, e_lnT, e_cp, e_cvi, e_ex20, e_ex21, e_ex30, e_ex31, e_ex32, e_add, e_sub, e_mul, e_quo, e_rem, e_and, e_or, e_xor, e_shl, e_shr, e_eql, e_neq, e_lss, e_leq, e_gtr, e_geq, e_beq, e_bne, e_peq1, e_peq2, e_pne1, e_pne2, e_zeq1, e_zeq2, e_zne1, e_zne2, e_feq1, e_fne1, e_feq2, e_fne2, e_seq, e_sne, e_ta1, e_ta2, Nat.zero_add, Nat.add_zero, Bool.not_true, Bool.not_false]
      refine occ_round hs hlt h (by omega) fun w' now' ts' L' ob' lv' h' hl' => ?_
      unfold s4_p2
      simp only [e_fd, e_nck, e_pkt, e_pkf, e_gdtt, e_gdtf, e_gdft, e_gdff, e_ift, e_iff, e_not, e_ln, e_lnT, e_cp, e_cvi, e_ex20, e_ex21, e_ex30, e_ex31, e_ex32, e_add, e_sub, e_mul, e_quo, e_rem, e_and, e_or, e_xor, e_shl, e_shr, e_eql, e_neq, e_lss, e_leq, e_gtr, e_geq, e_beq, e_bne, e_peq1, e_peq2, e_pne1, e_pne2, e_zeq1, e_zeq2, e_zne1, e_zne2, e_feq1, e_fne1, e_feq2, e_fne2, e_seq, e_sne, e_ta1, e_ta2, Nat.zero_add, Nat.add_zero, Bool.not_true, Bool.not_false]
      rw [wrap64_id (by omega) (by omega)]
      exact ⟨ops.length - (i + 1), by omega, i + 1, now', ts', L', ob', lv', by omega, rfl, by omega, by simp, h'⟩
    · have hlt' : ¬ (i : Int) < (ops.length : Int) := by omega
      simp only [hlt', decide_false, e_fd, e_nck, e_pkt, e_pkf, e_gdtt, e_gdtf, e_gdft, e_gdff, e_ift, e_iff, e_not, e_ln, e_lnT, e_cp, e_cvi, e_ex20, e_ex21, e_ex30, e_ex31, e_ex32, e_add, e_sub, e_mul, e_quo, e_rem, e_and, e_or, e_xor, e_shl, e_shr, e_eql, e_neq, e_lss, e_leq, e_gtr, e_geq, e_beq, e_bne, e_peq1, e_peq2, e_pne1, e_pne2, e_zeq1, e_zeq2, e_zne1, e_zne2, e_feq1, e_fne1, e_feq2, e_fne2, e_seq, e_sne, e_ta1, e_ta2, Nat.zero_add, Nat.add_zero, Bool.not_true, Bool.not_false]
      unfold s4_p1
      exact ⟨rfl, h.st.bel⟩
  · rw [decide_eq_false hsm]
    simp only [Bool.not_false, e_fd, e_nck, e_pkt, e_pkf, e_gdtt, e_gdtf, e_gdft, e_gdff, e_ift, e_iff, e_not, e_ln, e_lnT, e_cp, e_cvi, e_ex20, e_ex21, e_ex30, e_ex31, e_ex32, e_add, e_sub, e_mul, e_quo, e_rem, e_and, e_or, e_xor, e_shl, e_shr, e_eql, e_neq, e_lss, e_leq, e_gtr, e_geq, e_beq, e_bne, e_peq1, e_peq2, e_pne1, e_pne2, e_zeq1, e_zeq2, e_zne1, e_zne2, e_feq1, e_fne1, e_feq2, e_fne2, e_seq, e_sne, e_ta1, e_ta2, Nat.zero_add, Nat.add_zero, Bool.not_true, Bool.not_false]
    exact ⟨trivial, Below.refl _ _⟩

theorem occ_walk {W : World} {v : Value} {ops : List Op} (hs : Scr W v ops) : Calls Try.prog 4 #[v] W fun e w' => e = .returned (.bool true) ∧ Below W.heap.size W w' :=
  Calls.mono (occ_law hs) fun e w' ⟨v, he, hv, hb⟩ => ⟨by rw [he, hv], hb⟩
end Go.Proofs.Qxb6500897a
