import Derived.Test.Qxb6500897aP12
namespace Go.Proofs.Qxb6500897a
open Go.Sh Go.RowKit
set_option linter.unusedVariables false
set_option linter.unusedSimpArgs false

/-- one ring after an advance -/
def advF (now n : Int) (t : Tab) : Tab := advT t now.toNat (min n.toNat t.occ.length)
def advL (now n : Int) (ts : List Tab) (i : Nat) : List Tab := (ts.take i).map (advF now n) ++ ts.drop i

theorem advF_cells {now n : Int} {t : Tab} : (advF now n t).cells = t.cells := upd_cells (clrO_length _ _ _) (clrA_length _ _ _ _)
theorem advL_length (now n : Int) (ts : List Tab) (i : Nat) : (advL now n ts i).length = ts.length := by
  unfold advL; simp; omega
theorem advL_at {now n : Int} {ts : List Tab} {i : Nat} (hi : i < ts.length) : (advL now n ts i)[i]'(by rw [advL_length]; exact hi) = ts[i] := by
  unfold advL
  rw [List.getElem_append_right (by simp; omega)]
  simp only [List.length_map, List.length_take, Nat.min_eq_left (Nat.le_of_lt hi), Nat.sub_self, List.getElem_drop, Nat.add_zero]
theorem advL_set {now n : Int} {ts : List Tab} {i : Nat} (hi : i < ts.length) : (advL now n ts i).set i (advF now n ts[i]) = advL now n ts (i + 1) := by
  unfold advL
  rw [List.set_append_right _ _ (by simp; omega)]
  simp only [List.length_map, List.length_take, Nat.min_eq_left (Nat.le_of_lt hi), Nat.sub_self]
  rw [← List.getElem_cons_drop hi, List.set_cons_zero, List.take_add_one, List.getElem?_eq_getElem hi, Option.toList_some, List.map_append, List.append_assoc]
  rfl
theorem advL_blks (now n : Int) (ts : List Tab) (i : Nat) : blks (advL now n ts i) = blks ts := by
  unfold advL
  rw [blks_append]
  have e : blks ((ts.take i).map (advF now n)) = blks (ts.take i) := by
    unfold blks
    rw [List.flatMap_map]
    rfl
  rw [e, ← blks_append, List.take_append_drop]
theorem advL_ok {now n : Int} {ts : List Tab} (h : ∀ t ∈ ts, TOk t) (i : Nat) : ∀ t ∈ advL now n ts i, TOk t := by
  intro t ht
  unfold advL at ht
  rw [List.mem_append] at ht
  rcases ht with ht | ht
  · rw [List.mem_map] at ht
    obtain ⟨u, hu, rfl⟩ := ht
    exact (h u (List.mem_of_mem_take hu)).upd (clrO_length _ _ _) (clrA_length _ _ _ _)
  · exact h t (List.mem_of_mem_drop ht)

def advC (now n : Int) : Int := if n < 0 then 8 else if 90 - now < n then 9 else 0
def advTs (now : Int) (ts : List Tab) (n : Int) : List Tab := if advC now n = 0 then ts.map (advF now n) else ts
def advNow (now n : Int) : Int := if advC now n = 0 then now + n else now

theorem adv_tabs_loop {w : World} {d tb : Nat} {now n : Int} {ts : List Tab} {K : Value → World → Prop} (W : World) (h : Tabs w d tb 6 90 now ts) (hok : ∀ t ∈ ts, TOk t) (n0 : 0 ≤ now) (n1 : now ≤ 90) (m0 : 0 ≤ n) (m1 : n ≤ 90)
    (hl : ts.length ≤ 4096) (hw : Kp (fun k => k = d ∨ k ∈ blks ts) W w)
    (hK : ∀ w', Tabs w' d tb 6 90 (now + n) (ts.map (advF now n)) → Kp (fun k => k = d ∨ k ∈ blks ts) W w' → K .nilIface w') :
    s48_p6 K (.pointer (some ⟨d, 0, none⟩)) (I n) (I ts.length) (I 0) w := by
  refine ⟨fun m l w => ∃ i : Nat, i ≤ ts.length ∧ m = ts.length - i ∧ l = [.pointer (some ⟨d, 0, none⟩), I n, I ts.length, I (i : Nat)] ∧ Tabs w d tb 6 90 now (advL now n ts i) ∧ Kp (fun k => k = d ∨ k ∈ blks ts) W w,
    ts.length, ⟨0, by omega, by omega, rfl, h, hw⟩, ?_⟩
  rintro m l w ⟨i, hi, rfl, rfl, h, hw⟩
  rw [s48_p6_Fe]
  unfold s48_p5
  simp only [e_fd, e_nck, e_pkt, e_pkf, e_gdtt, e_gdtf, e_gdft, e_gdff, e_ift, e_iff, e_not, e_ln, e_lnT, e_cp, e_cvi, e_ex20, e_ex21, e_ex30, e_ex31, e_ex32, e_add, e_sub, e_mul, e_quo, e_rem, e_and, e_or, e_xor, e_shl, e_shr, e_eql, e_neq, e_lss, e_leq, e_gtr, e_geq, e_beq, e_bne, e_peq1, e_peq2, e_pne1, e_pne2, e_zeq1, e_zeq2, e_zne1, e_zne2, e_feq1, e_fne1, e_feq2, e_fne2, e_seq, e_sne, e_ta1, e_ta2, Nat.zero_add, Nat.add_zero, Bool.not_true, Bool.not_false]
  have el := advL_length now n ts i
  by_cases hlt : (i : Int) < (ts.length : Int)
  · simp only [hlt, decide_true, e_fd, e_nck, e_pkt, e_pkf, e_gdtt, e_gdtf, e_gdft, e_gdff, e_ift, e_iff, e_not, e_ln, e_lnT, e_cp, e_cvi, e_ex20, e_ex21, e_ex30, e_ex31, e_ex32, e_add, e_sub, e_mul, e_quo, e_rem, e_and, e_or, e_xor, e_shl, e_shr, e_eql, e_neq, e_lss, e_leq, e_gtr, e_geq, e_beq, e_bne, e_peq1, e_peq2, e_pne1, e_pne2, e_zeq1, e_zeq2, e_zne1, e_zne2, e_feq1, e_fne1, e_feq2, e_fne2, e_seq, e_sne, e_ta1, e_ta2, Nat.zero_add, Nat.add_zero, Bool.not_true, Bool.not_false]
    have hil : i < ts.length := by omega
    have hil' : i < (advL now n ts i).length := by rw [el]; exact hil
    unfold s48_p4 s48_p3 s48_p3_d
    simp only [e_fd, e_nck, e_pkt, e_pkf, e_gdtt, e_gdtf, e_gdft, e_gdff, e_ift, e_iff, e_not, e_ln, e_lnT, e_cp, e_cvi, e_ex20, e_ex21, e_ex30, e_ex31, e_ex32, e_add, e_sub, e_mul, e_quo, e_rem, e_and, e_or, e_xor, e_shl, e_shr, e_eql, e_neq, e_lss, e_leq, e_gtr, e_geq, e_beq, e_bne, e_peq1, e_peq2, e_pne1, e_pne2, e_zeq1, e_zeq2, e_zne1, e_zne2, e_feq1, e_fne1, e_feq2, e_fne2, e_seq, e_sne, e_ta1, e_ta2, Nat.zero_add, Nat.add_zero, Bool.not_true, Bool.not_false]
    have hd := h.kp kp_drw
    refine ld1_r hd.top rfl ?_
    refine ixs_r hil' ?_
    refine ld1_r hd.top rfl ?_
    have hat := hd.at hil'
    refine advance_ok hat (advL_ok hok i _ (List.getElem_mem hil')) n0 (by omega) m0 fun w2 h2 hb2 => ?_
    have e1 := advL_at (now := now) (n := n) hil
    have h3 := hd.upd hil' (t' := advF now n (advL now n ts i)[i]) advF_cells rfl rfl h2 hb2
    rw [e1, advL_set hil] at h3
    unfold s48_p2
    simp only [e_fd, e_nck, e_pkt, e_pkf, e_gdtt, e_gdtf, e_gdft, e_gdff, e_ift, e_iff, e_not, e_ln, e_lnT, e_cp, e_cvi, e_ex20, e_ex21, e_ex30, e_ex31, e_ex32, e_add, e_sub, e_mul, e_quo, e_rem, e_and, e_or, e_xor, e_shl, e_shr, e_eql, e_neq, e_lss, e_leq, e_gtr, e_geq, e_beq, e_bne, e_peq1, e_peq2, e_pne1, e_pne2, e_zeq1, e_zeq2, e_zne1, e_zne2, e_feq1, e_fne1, e_feq2, e_fne2, e_seq, e_sne, e_ta1, e_ta2, Nat.zero_add, Nat.add_zero, Bool.not_true, Bool.not_false]
    rw [wrap64_id (by omega) (by omega)]
    refine ⟨ts.length - (i + 1), by omega, i + 1, by omega, rfl, rfl, h3, (hw.trans kp_drw).trans (hb2.mono ?_)⟩
    intro k _ e
    right
    rw [← advL_blks now n ts i]
    have := blks_at hil'
    rcases e with e | e
    · rw [e]; exact this.1
    · rw [e]; exact this.2
  · simp only [hlt, decide_false, e_fd, e_nck, e_pkt, e_pkf, e_gdtt, e_gdtf, e_gdft, e_gdff, e_ift, e_iff, e_not, e_ln, e_lnT, e_cp, e_cvi, e_ex20, e_ex21, e_ex30, e_ex31, e_ex32, e_add, e_sub, e_mul, e_quo, e_rem, e_and, e_or, e_xor, e_shl, e_shr, e_eql, e_neq, e_lss, e_leq, e_gtr, e_geq, e_beq, e_bne, e_peq1, e_peq2, e_pne1, e_pne2, e_zeq1, e_zeq2, e_zne1, e_zne2, e_feq1, e_fne1, e_feq2, e_fne2, e_seq, e_sne, e_ta1, e_ta2, Nat.zero_add, Nat.add_zero, Bool.not_true, Bool.not_false]
    have e : i = ts.length := by omega
    subst e
    have e2 : advL now n ts ts.length = ts.map (advF now n) := by unfold advL; simp
    rw [e2] at h
    unfold s48_p1
    simp only [e_fd, e_nck, e_pkt, e_pkf, e_gdtt, e_gdtf, e_gdft, e_gdff, e_ift, e_iff, e_not, e_ln, e_lnT, e_cp, e_cvi, e_ex20, e_ex21, e_ex30, e_ex31, e_ex32, e_add, e_sub, e_mul, e_quo, e_rem, e_and, e_or, e_xor, e_shl, e_shr, e_eql, e_neq, e_lss, e_leq, e_gtr, e_geq, e_beq, e_bne, e_peq1, e_peq2, e_pne1, e_pne2, e_zeq1, e_zeq2, e_zne1, e_zne2, e_feq1, e_fne1, e_feq2, e_fne2, e_seq, e_sne, e_ta1, e_ta2, Nat.zero_add, Nat.add_zero, Bool.not_true, Bool.not_false]
    refine ld1_r h.top rfl ?_
    simp only [e_fd, e_nck, e_pkt, e_pkf, e_gdtt, e_gdtf, e_gdft, e_gdff, e_ift, e_iff, e_not, e_ln, e_lnT, e_cp, e_cvi, e_ex20, e_ex21, e_ex30, e_ex31, e_ex32, e_add, e_sub, e_mul, e_quo, e_rem, e_and, e_or, e_xor, e_shl, e_shr, e_eql, e_neq, e_lss, e_leq, e_gtr, e_geq, e_beq, e_bne, e_peq1, e_peq2, e_pne1, e_pne2, e_zeq1, e_zeq2, e_zne1, e_zne2, e_feq1, e_fne1, e_feq2, e_fne2, e_seq, e_sne, e_ta1, e_ta2, Nat.zero_add, Nat.add_zero, Bool.not_true, Bool.not_false]
    rw [wrap64_id (by omega) (by omega)]
    refine st1_r h.top (Nat.le_of_ble_eq_true rfl) rfl fun w2 (r2 : Row w2 d 98 [I 6, I 90, I (now + n), .slice (some ⟨tb, 0, none⟩) (ts.map (advF now n)).length (ts.map (advF now n)).length]) hb2 hz2 => ?_
    have nd1 := List.nodup_cons.1 h.nd
    have hnot : ∀ t ∈ ts.map (advF now n), t.ob ≠ d ∧ t.ab ≠ d := by
      intro t ht
      constructor
      · intro e; exact nd1.1 (List.mem_cons_of_mem _ (mem_blks.2 ⟨t, ht, .inl e.symm⟩))
      · intro e; exact nd1.1 (List.mem_cons_of_mem _ (mem_blks.2 ⟨t, ht, .inr e.symm⟩))
    refine hK w2 ⟨r2, hb2.row h.arr (fun e => nd1.1 (e ▸ List.mem_cons_self ..)), fun t ht => hb2.row (h.occ t ht) (hnot t ht).1, fun t ht => hb2.row (h.adm t ht) (hnot t ht).2, h.nd⟩ (hw.trans (hb2.mono fun k _ e => .inl e))

theorem Advance_ok {w : World} {d tb : Nat} {now n : Int} {ts : List Tab} {K : Value → World → Prop} (h : Sys w d tb now ts) (hl : ts.length ≤ 4096)
    (hK : ∀ w' v, ErrV w' v (advC now n) → Tabs w' d tb 6 90 (advNow now n) (advTs now ts n) → Kp (fun k => k = d ∨ k ∈ blks ts) w w' → K v w') :
    cl Try.prog 48 #[.pointer (some ⟨d, 0, none⟩), I n] K w := by
  have n0 := h.n0
  have n1 := h.n1
  apply c48
  unfold s48_p9
  simp only [e_fd, e_nck, e_pkt, e_pkf, e_gdtt, e_gdtf, e_gdft, e_gdff, e_ift, e_iff, e_not, e_ln, e_lnT, e_cp, e_cvi, e_ex20, e_ex21, e_ex30, e_ex31, e_ex32, e_add, e_sub, e_mul, e_quo, e_rem, e_and, e_or, e_xor, e_shl, e_shr, e_eql, e_neq, e_lss, e_leq, e_gtr, e_geq, e_beq, e_bne, e_peq1, e_peq2, e_pne1, e_pne2, e_zeq1, e_zeq2, e_zne1, e_zne2, e_feq1, e_fne1, e_feq2, e_fne2, e_seq, e_sne, e_ta1, e_ta2, Nat.zero_add, Nat.add_zero, Bool.not_true, Bool.not_false]
  unfold advTs advNow advC at hK
  by_cases a1 : n < 0
  · simp only [if_pos a1] at hK
    simp only [a1, decide_true, e_fd, e_nck, e_pkt, e_pkf, e_gdtt, e_gdtf, e_gdft, e_gdff, e_ift, e_iff, e_not, e_ln, e_lnT, e_cp, e_cvi, e_ex20, e_ex21, e_ex30, e_ex31, e_ex32, e_add, e_sub, e_mul, e_quo, e_rem, e_and, e_or, e_xor, e_shl, e_shr, e_eql, e_neq, e_lss, e_leq, e_gtr, e_geq, e_beq, e_bne, e_peq1, e_peq2, e_pne1, e_pne2, e_zeq1, e_zeq2, e_zne1, e_zne2, e_feq1, e_fne1, e_feq2, e_fne2, e_seq, e_sne, e_ta1, e_ta2, Nat.zero_add, Nat.add_zero, Bool.not_true, Bool.not_false]
    refine result_ok fun w3 v hv hb3 => hK w3 v hv ?_ hb3.none
    simpa using h.tabs.kp hb3
  simp only [if_neg a1] at hK
  simp only [a1, decide_false, e_fd, e_nck, e_pkt, e_pkf, e_gdtt, e_gdtf, e_gdft, e_gdff, e_ift, e_iff, e_not, e_ln, e_lnT, e_cp, e_cvi, e_ex20, e_ex21, e_ex30, e_ex31, e_ex32, e_add, e_sub, e_mul, e_quo, e_rem, e_and, e_or, e_xor, e_shl, e_shr, e_eql, e_neq, e_lss, e_leq, e_gtr, e_geq, e_beq, e_bne, e_peq1, e_peq2, e_pne1, e_pne2, e_zeq1, e_zeq2, e_zne1, e_zne2, e_feq1, e_fne1, e_feq2, e_fne2, e_seq, e_sne, e_ta1, e_ta2, Nat.zero_add, Nat.add_zero, Bool.not_true, Bool.not_false]
  unfold s48_p8 s48_p8_d
  simp only [e_fd, e_nck, e_pkt, e_pkf, e_gdtt, e_gdtf, e_gdft, e_gdff, e_ift, e_iff, e_not, e_ln, e_lnT, e_cp, e_cvi, e_ex20, e_ex21, e_ex30, e_ex31, e_ex32, e_add, e_sub, e_mul, e_quo, e_rem, e_and, e_or, e_xor, e_shl, e_shr, e_eql, e_neq, e_lss, e_leq, e_gtr, e_geq, e_beq, e_bne, e_peq1, e_peq2, e_pne1, e_pne2, e_zeq1, e_zeq2, e_zne1, e_zne2, e_feq1, e_fne1, e_feq2, e_fne2, e_seq, e_sne, e_ta1, e_ta2, Nat.zero_add, Nat.add_zero, Bool.not_true, Bool.not_false]
  have hd := h.kp kp_drw
  refine ld1_r hd.tabs.top rfl ?_
  refine ld1_r hd.tabs.top rfl ?_
  simp only [e_fd, e_nck, e_pkt, e_pkf, e_gdtt, e_gdtf, e_gdft, e_gdff, e_ift, e_iff, e_not, e_ln, e_lnT, e_cp, e_cvi, e_ex20, e_ex21, e_ex30, e_ex31, e_ex32, e_add, e_sub, e_mul, e_quo, e_rem, e_and, e_or, e_xor, e_shl, e_shr, e_eql, e_neq, e_lss, e_leq, e_gtr, e_geq, e_beq, e_bne, e_peq1, e_peq2, e_pne1, e_pne2, e_zeq1, e_zeq2, e_zne1, e_zne2, e_feq1, e_fne1, e_feq2, e_fne2, e_seq, e_sne, e_ta1, e_ta2, Nat.zero_add, Nat.add_zero, Bool.not_true, Bool.not_false]
  rw [wrap64_id (by omega) (by omega)]
  unfold s48_p7
  by_cases a2 : 90 - now < n
  · simp only [if_pos a2] at hK
    simp only [a2, decide_true, e_fd, e_nck, e_pkt, e_pkf, e_gdtt, e_gdtf, e_gdft, e_gdff, e_ift, e_iff, e_not, e_ln, e_lnT, e_cp, e_cvi, e_ex20, e_ex21, e_ex30, e_ex31, e_ex32, e_add, e_sub, e_mul, e_quo, e_rem, e_and, e_or, e_xor, e_shl, e_shr, e_eql, e_neq, e_lss, e_leq, e_gtr, e_geq, e_beq, e_bne, e_peq1, e_peq2, e_pne1, e_pne2, e_zeq1, e_zeq2, e_zne1, e_zne2, e_feq1, e_fne1, e_feq2, e_fne2, e_seq, e_sne, e_ta1, e_ta2, Nat.zero_add, Nat.add_zero, Bool.not_true, Bool.not_false]
    refine result_ok fun w3 v hv hb3 => hK w3 v hv ?_ (kp_drw.trans hb3).none
    simpa using hd.tabs.kp hb3
  · simp only [if_neg a2, if_true] at hK
    simp only [a2, decide_false, e_fd, e_nck, e_pkt, e_pkf, e_gdtt, e_gdtf, e_gdft, e_gdff, e_ift, e_iff, e_not, e_ln, e_lnT, e_cp, e_cvi, e_ex20, e_ex21, e_ex30, e_ex31, e_ex32, e_add, e_sub, e_mul, e_quo, e_rem, e_and, e_or, e_xor, e_shl, e_shr, e_eql, e_neq, e_lss, e_leq, e_gtr, e_geq, e_beq, e_bne, e_peq1, e_peq2, e_pne1, e_pne2, e_zeq1, e_zeq2, e_zne1, e_zne2, e_feq1, e_fne1, e_feq2, e_fne2, e_seq, e_sne, e_ta1, e_ta2, Nat.zero_add, Nat.add_zero, Bool.not_true, Bool.not_false]
    refine ld1_r hd.tabs.top rfl ?_
    simp only [e_fd, e_nck, e_pkt, e_pkf, e_gdtt, e_gdtf, e_gdft, e_gdff, e_ift, e_iff, e_not, e_ln, e_lnT, e_cp, e_cvi, e_ex20, e_ex21, e_ex30, e_ex31, e_ex32, e_add, e_sub, e_mul, e_quo, e_rem, e_and, e_or, e_xor, e_shl, e_shr, e_eql, e_neq, e_lss, e_leq, e_gtr, e_geq, e_beq, e_bne, e_peq1, e_peq2, e_pne1, e_pne2, e_zeq1, e_zeq2, e_zne1, e_zne2, e_feq1, e_fne1, e_feq2, e_fne2, e_seq, e_sne, e_ta1, e_ta2, Nat.zero_add, Nat.add_zero, Bool.not_true, Bool.not_false]
    exact adv_tabs_loop w hd.tabs h.ok n0 n1 (by omega) (by omega) hl kp_drw fun w' ht hk => hK w' _ (.inl ⟨rfl, rfl⟩) ht hk
end Go.Proofs.Qxb6500897a
