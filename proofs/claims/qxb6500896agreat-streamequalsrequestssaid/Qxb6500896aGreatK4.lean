import Derived.Test.Qxb6500896aGreatK3
namespace Go.Proofs.Qxb6500896aGreat
open Go.Sh Go.RowKit
set_option linter.unusedVariables false
set_option linter.unusedSimpArgs false

theorem sl_scal {α : Type} {f : α → List Value} {k : Nat} {w : World} {e : TypeId} {ob : Option Nat} {v : Value} {xs : List α} (h : Sl f k w e ob v xs) : scal v = true := by
  cases ob with
  | none => obtain ⟨rfl, _⟩ := h; rfl
  | some b => obtain ⟨cap, junk, rfl, _⟩ := h; rfl
theorem Nb.wide {w w' w1 w2 : World} {b : Nat} (h : Nb w1 w2 b) (h1 : w.heap.size ≤ w1.heap.size) (h2 : w2.heap.size ≤ w'.heap.size) : Nb w w' b := ⟨by have := h.1; omega, by have := h.2; omega⟩
section
variable {F G S : Nat → Prop} {w w' : World} {v : Value} {l : List Value} {C : Cfg} {xss : List (List Int)} {xs : List Int} {K : Value → World → Prop}
/-- a copy that shares no memory -/
theorem copyConfig_ok (h : Cg F w l C) (hC : Cok C) (hK : ∀ w' l', Kp Emp w w' → Cg (Nb w w') w' l' C → K (.agg l'.toArray) w') : cl Tryz.prog 169 #[.agg l.toArray] K w := by
  have sc0 : l.all scal = true := h.sc
  obtain ⟨va, vt, rfl, ha, rvs, hr, hrl, hrs⟩ := h.ex
  have hca := hC.a
  have hct := hC.t
  apply c169
  unfold s169_p7
  refine nw_r fun w1 r1 hk1 hz1 => ?_
  replace r1 : Row w1 w.heap.size 34 (C.cells va vt) := r1
  refine nw_r fun w2 r2 hk2 hz2 => ?_
  refine ldn_r (hk2.row' r1) (show 0 + 14 ≤ 14 by decide) ?_
  refine nw_r fun w3 r3 hk3 hz3 => ?_
  refine stn_r (cs := C.cells va vt) r3 rfl (show 0 + 14 ≤ 14 by decide) sc0 fun w4 r4 hk4 hz4 => ?_
  replace r4 : Row w4 w2.heap.size 34 (C.cells va vt) := r4
  try simp only [e_fd, e_nck, e_pkt, e_pkf, e_gdtt, e_gdtf, e_gdft, e_gdff, e_ift, e_iff, e_not, e_ln, e_lnT, e_cp, e_cvi, e_ex20, e_ex21, e_ex30, e_ex31, e_ex32, e_add, e_sub, e_mul, e_quo, e_rem, e_and, e_or, e_xor, e_shl, e_shr, e_eql, e_neq, e_lss, e_leq, e_gtr, e_geq, e_beq, e_bne, e_peq1, e_peq2, e_pne1, e_pne2, e_zeq1, e_zeq2, e_zne1, e_zne2, e_feq1, e_fne1, e_feq2, e_fne2, e_seq, e_sne, e_ta1, e_ta2, Nat.zero_add, Nat.add_zero, Bool.not_true, Bool.not_false]
  have r14 : Row w4 w.heap.size 34 (C.cells va vt) := hk4.row (hk3.row' (hk2.row' r1)) (by omega)
  have r24 := hk4.row (hk3.row' r2) (show ¬ w1.heap.size = w2.heap.size by omega)
  have k4 : Kp Emp w w4 := (((hk1.trans hk2).trans hk3).then hk4 fun k hk (q : k = _) => by omega)
  refine ld1_r r14 rfl ?_
  refine ar_copy0 (e := 113) Att.len rfl (fun _ _ => Att.sc _) (ha.kp' k4) (by omega) fun w5 v5 ob5 s5 hn5 hk5 => ?_
  try simp only [e_fd, e_nck, e_pkt, e_pkf, e_gdtt, e_gdtf, e_gdft, e_gdff, e_ift, e_iff, e_not, e_ln, e_lnT, e_cp, e_cvi, e_ex20, e_ex21, e_ex30, e_ex31, e_ex32, e_add, e_sub, e_mul, e_quo, e_rem, e_and, e_or, e_xor, e_shl, e_shr, e_eql, e_neq, e_lss, e_leq, e_gtr, e_geq, e_beq, e_bne, e_peq1, e_peq2, e_pne1, e_pne2, e_zeq1, e_zeq2, e_zne1, e_zne2, e_feq1, e_fne1, e_feq2, e_fne2, e_seq, e_sne, e_ta1, e_ta2, Nat.zero_add, Nat.add_zero, Bool.not_true, Bool.not_false]
  have sz5 := hk5.size
  refine st1_r (hk5.row' r4) (show 0 < 14 by decide) (sl_scal s5) fun w6 r6 hk6 hz6 => ?_
  replace r6 : Row w6 w2.heap.size 34 (C.cells v5 vt) := r6
  have r16 := hk6.row (hk5.row' r14) (show ¬ w.heap.size = w2.heap.size by omega)
  have r26 := hk6.row (hk5.row' r24) (show ¬ w1.heap.size = w2.heap.size by omega)
  have s6 := s5.kp hk6 (fun b e (q : b = _) => by have := (hn5 b e).1; omega)
  have k6 : Kp Emp w w6 := (k4.trans hk5).then hk6 fun k hk (q : k = _) => by omega
  try simp only [e_fd, e_nck, e_pkt, e_pkf, e_gdtt, e_gdtf, e_gdft, e_gdff, e_ift, e_iff, e_not, e_ln, e_lnT, e_cp, e_cvi, e_ex20, e_ex21, e_ex30, e_ex31, e_ex32, e_add, e_sub, e_mul, e_quo, e_rem, e_and, e_or, e_xor, e_shl, e_shr, e_eql, e_neq, e_lss, e_leq, e_gtr, e_geq, e_beq, e_bne, e_peq1, e_peq2, e_pne1, e_pne2, e_zeq1, e_zeq2, e_zne1, e_zne2, e_feq1, e_fne1, e_feq2, e_fne2, e_seq, e_sne, e_ta1, e_ta2, Nat.zero_add, Nat.add_zero, Bool.not_true, Bool.not_false]
  refine ld1_r r16 rfl ?_
  refine hr.ln ?_
  rw [hrl]
  refine mks_r (n := C.tr.length) (by omega) (by omega) fun w7 r7 hk7 hz7 => ?_
  try simp only [e_fd, e_nck, e_pkt, e_pkf, e_gdtt, e_gdtf, e_gdft, e_gdff, e_ift, e_iff, e_not, e_ln, e_lnT, e_cp, e_cvi, e_ex20, e_ex21, e_ex30, e_ex31, e_ex32, e_add, e_sub, e_mul, e_quo, e_rem, e_and, e_or, e_xor, e_shl, e_shr, e_eql, e_neq, e_lss, e_leq, e_gtr, e_geq, e_beq, e_bne, e_peq1, e_peq2, e_pne1, e_pne2, e_zeq1, e_zeq2, e_zne1, e_zne2, e_feq1, e_fne1, e_feq2, e_fne2, e_seq, e_sne, e_ta1, e_ta2, Nat.zero_add, Nat.add_zero, Bool.not_true, Bool.not_false]
  refine st1_r (hk7.row' r6) (show 1 < 14 by decide) rfl fun w8 r8 hk8 hz8 => ?_
  replace r8 : Row w8 w2.heap.size 34 (C.cells v5 (.slice (some ⟨w6.heap.size, 0, none⟩) C.tr.length C.tr.length)) := r8
  have r78 := hk8.row r7 (show ¬ w6.heap.size = w2.heap.size by omega)
  have r18 := hk8.row (hk7.row' r16) (show ¬ w.heap.size = w2.heap.size by omega)
  have r28 := hk8.row (hk7.row' r26) (show ¬ w1.heap.size = w2.heap.size by omega)
  have s8 := (s6.kp' hk7).kp hk8 (fun b e (q : b = _) => by have := (hn5 b e).1; omega)
  have k8 : Kp Emp w w8 := (k6.trans hk7).then hk8 fun k hk (q : k = _) => by omega
  try simp only [e_fd, e_nck, e_pkt, e_pkf, e_gdtt, e_gdtf, e_gdft, e_gdff, e_ift, e_iff, e_not, e_ln, e_lnT, e_cp, e_cvi, e_ex20, e_ex21, e_ex30, e_ex31, e_ex32, e_add, e_sub, e_mul, e_quo, e_rem, e_and, e_or, e_xor, e_shl, e_shr, e_eql, e_neq, e_lss, e_leq, e_gtr, e_geq, e_beq, e_bne, e_peq1, e_peq2, e_pne1, e_pne2, e_zeq1, e_zeq2, e_zne1, e_zne2, e_feq1, e_fne1, e_feq2, e_fne2, e_seq, e_sne, e_ta1, e_ta2, Nat.zero_add, Nat.add_zero, Bool.not_true, Bool.not_false]
  refine ld1_r r18 rfl ?_
  refine hr.ln ?_
  unfold s169_p6
  generalize hv2 : (Value.slice (some ⟨w6.heap.size, 0, none⟩) C.tr.length C.tr.length) = tv at r8
  refine loop_n rvs.length (fun i l w' => ∃ done : List Value, l = [P w1.heap.size 0, P w2.heap.size 0, vt, I (rvs.length : Nat), I (i : Nat)] ∧ Kp Emp w w' ∧ w8.heap.size ≤ w'.heap.size ∧ Row w' w2.heap.size 34 (C.cells v5 tv) ∧ (∃ z, Row w' w1.heap.size 34 z ∧ z.length = 14) ∧ Sl Att.cells 5 w' 113 ob5 v5 C.ats ∧
      done.length = i ∧ Row w' w6.heap.size 79 (done ++ List.replicate (C.tr.length - i) nilS) ∧ (∀ j (h1 : j < done.length) (h2 : j < C.tr.length), ∃ G : Nat → Prop, Ar iC 1 G w' done[j] C.tr[j] ∧ ∀ b, G b → w8.heap.size ≤ b ∧ b < w'.heap.size)) ?_ ?_ ?_
  · exact ⟨[], rfl, k8, Nat.le_refl _, r8, ⟨_, r28, rfl⟩, s8, rfl, r78, fun j h1 => by simp at h1⟩
  · rintro i l w9 hi ⟨done, rfl, k9, sz9, r9, ⟨z, rz, hzl⟩, s9, hdl, rt, hd⟩ B hB
    rw [s169_p6_Fe]
    unfold s169_p5
    simp only [dlt hi, e_fd, e_nck, e_pkt, e_pkf, e_gdtt, e_gdtf, e_gdft, e_gdff, e_ift, e_iff, e_not, e_ln, e_lnT, e_cp, e_cvi, e_ex20, e_ex21, e_ex30, e_ex31, e_ex32, e_add, e_sub, e_mul, e_quo, e_rem, e_and, e_or, e_xor, e_shl, e_shr, e_eql, e_neq, e_lss, e_leq, e_gtr, e_geq, e_beq, e_bne, e_peq1, e_peq2, e_pne1, e_pne2, e_zeq1, e_zeq2, e_zne1, e_zne2, e_feq1, e_fne1, e_feq2, e_fne2, e_seq, e_sne, e_ta1, e_ta2, Nat.zero_add, Nat.add_zero, Bool.not_true, Bool.not_false]
    unfold s169_p4
    have hi2 : i < C.tr.length := by omega
    refine hr.ix hi fun b o _ hc => ?_
    refine (hc.kp' k9).ld0 rfl ?_
    have hrow := hrs i hi hi2
    have hrl2 := hC.r _ (List.getElem_mem hi2)
    unfold s169_p3 s169_p3_d
    have kd : Kp Emp w9 (drw w9) := kp_drw
    have szd : (drw w9).heap.size = w9.heap.size := rfl
    generalize drw w9 = w10 at kd szd ⊢
    try simp only [e_fd, e_nck, e_pkt, e_pkf, e_gdtt, e_gdtf, e_gdft, e_gdff, e_ift, e_iff, e_not, e_ln, e_lnT, e_cp, e_cvi, e_ex20, e_ex21, e_ex30, e_ex31, e_ex32, e_add, e_sub, e_mul, e_quo, e_rem, e_and, e_or, e_xor, e_shl, e_shr, e_eql, e_neq, e_lss, e_leq, e_gtr, e_geq, e_beq, e_bne, e_peq1, e_peq2, e_pne1, e_pne2, e_zeq1, e_zeq2, e_zne1, e_zne2, e_feq1, e_fne1, e_feq2, e_fne2, e_seq, e_sne, e_ta1, e_ta2, Nat.zero_add, Nat.add_zero, Bool.not_true, Bool.not_false]
    refine ld1_r (kd.row' r9) rfl ?_
    subst hv2
    refine ⟨⟨by omega, by omega⟩, ?_⟩
    have ei : ((i : Nat) : Int).toNat * 1 = i := by omega
    rw [ei, add_mk, Nat.zero_add]
    refine ar_copy0 (e := 3) iC_len rfl (fun _ _ => rfl) ((hrow.kp' k9).kp' kd) (by omega) fun w11 v11 ob11 s11 hn11 hk11 => ⟨hk11.below', ?_⟩
    have sz11 := hk11.size
    have rt11 := hk11.row' (kd.row' rt)
    refine st1_r rt11 (by rw [List.length_append, List.length_replicate]; omega) (sl_scal s11) fun w12 r12 hk12 hz12 => ?_
    have e12 : (done ++ List.replicate (C.tr.length - i) nilS).set i v11 = (done ++ [v11]) ++ List.replicate (C.tr.length - (i + 1)) nilS := by
      rw [List.set_append_right _ _ (by omega), hdl, Nat.sub_self, show C.tr.length - i = (C.tr.length - (i + 1)) + 1 by omega, List.replicate_succ, List.set_cons_zero, List.append_assoc]
      rfl
    rw [e12] at r12
    unfold s169_p2
    try simp only [e_fd, e_nck, e_pkt, e_pkf, e_gdtt, e_gdtf, e_gdft, e_gdff, e_ift, e_iff, e_not, e_ln, e_lnT, e_cp, e_cvi, e_ex20, e_ex21, e_ex30, e_ex31, e_ex32, e_add, e_sub, e_mul, e_quo, e_rem, e_and, e_or, e_xor, e_shl, e_shr, e_eql, e_neq, e_lss, e_leq, e_gtr, e_geq, e_beq, e_bne, e_peq1, e_peq2, e_pne1, e_pne2, e_zeq1, e_zeq2, e_zne1, e_zne2, e_feq1, e_fne1, e_feq2, e_fne2, e_seq, e_sne, e_ta1, e_ta2, Nat.zero_add, Nat.add_zero, Bool.not_true, Bool.not_false]
    rw [inc i (by omega)]
    have ne6 : ∀ {b t l}, Row w11 b t l → t ≠ 79 → ¬ b = w6.heap.size := fun hr ht => row_ne hr rt11 ht
    refine hB _ _ ⟨done ++ [v11], rfl, ((k9.trans kd).trans hk11).then hk12 (fun k hk (q : k = _) => by have := k6.size; omega), by omega, hk12.row (hk11.row' (kd.row' r9)) (ne6 (hk11.row' (kd.row' r9)) (by decide)), ⟨z, hk12.row (hk11.row' (kd.row' rz)) (ne6 (hk11.row' (kd.row' rz)) (by decide)), hzl⟩, ((s9.kp' kd).kp' hk11).kp hk12 (fun b e (q : b = _) => ?_), by simp [hdl], r12, fun j h1 h2 => ?_⟩
    · obtain ⟨ll, hll⟩ := ((s9.kp' kd).kp' hk11).row e
      exact ne6 hll (by decide) q
    · rw [List.length_append, List.length_singleton] at h1
      rcases Nat.lt_or_ge j done.length with q | q
      · obtain ⟨G, g1, g2⟩ := hd j q h2
        rw [List.getElem_append_left q]
        refine ⟨G, ((g1.kp' kd).kp' hk11).kp hk12 (fun b hb (q : b = _) => by have := (g2 b hb).1; omega), fun b hb => ⟨(g2 b hb).1, by have := (g2 b hb).2; omega⟩⟩
      · obtain rfl : j = i := by omega
        rw [List.getElem_append_right (by omega)]
        simp only [hdl, Nat.sub_self, List.getElem_cons_zero]
        refine ⟨Nb w10 w11, (s11.ar iC_len (by omega) (fun b e => hn11 b e)).kp hk12 (fun b hb (q : b = _) => by have := hb.1; omega), fun b hb => ⟨by have := hb.1; omega, by have := hb.2; omega⟩⟩
  · rintro l w9 ⟨done, rfl, k9, sz9, r9, ⟨z, rz, hzl⟩, s9, hdl, rt, hd⟩ B
    rw [s169_p6_Fe]
    unfold s169_p5
    simp only [dnlt, e_fd, e_nck, e_pkt, e_pkf, e_gdtt, e_gdtf, e_gdft, e_gdff, e_ift, e_iff, e_not, e_ln, e_lnT, e_cp, e_cvi, e_ex20, e_ex21, e_ex30, e_ex31, e_ex32, e_add, e_sub, e_mul, e_quo, e_rem, e_and, e_or, e_xor, e_shl, e_shr, e_eql, e_neq, e_lss, e_leq, e_gtr, e_geq, e_beq, e_bne, e_peq1, e_peq2, e_pne1, e_pne2, e_zeq1, e_zeq2, e_zne1, e_zne2, e_feq1, e_fne1, e_feq2, e_fne2, e_seq, e_sne, e_ta1, e_ta2, Nat.zero_add, Nat.add_zero, Bool.not_true, Bool.not_false]
    unfold s169_p1
    refine ldn_r r9 (show 0 + 14 ≤ 14 by decide) ?_
    have rne : ¬ w1.heap.size = w2.heap.size := by omega
    have sc2 : (C.cells v5 tv).all scal = true := by
      subst hv2
      unfold Cfg.cells
      simp only [List.all_cons, sl_scal s9]
      rfl
    refine stn_r (cs := C.cells v5 tv) rz rfl (by omega) sc2 fun w10 r10 hk10 hz10 => ?_
    have e10 : List.take 0 z ++ (C.cells v5 tv ++ List.drop (0 + 14) z) = C.cells v5 tv := by
      rw [List.take_zero, List.nil_append, List.drop_of_length_le (by omega), List.append_nil]
    rw [e10] at r10
    refine ldn_r r10 (show 0 + 14 ≤ 14 by decide) ?_
    have k10 : Kp Emp w w10 := k9.then hk10 fun k hk (q : k = _) => by omega
    refine hK w10 _ k10 ⟨v5, tv, rfl, ?_, done, ?_, by omega, fun j h1 h2 => ?_⟩
    · exact (s9.kp hk10 (fun b e (q : b = _) => by have := (hn5 b e).1; omega)).ar Att.len (by omega) (fun b e => ⟨by have := (hn5 b e).1; have := k4.size; omega, by have := (hn5 b e).2; omega⟩)
    · rw [hrl, Nat.sub_self, List.replicate_zero, List.append_nil] at rt
      subst hv2
      have := Ar.row (xs := done) (F := Nb w w10) (k := 1) one_len (by rw [rows_one]; exact hk10.row rt (by omega)) ⟨by have := k6.size; omega, by omega⟩ (by omega)
      rw [show done.length = C.tr.length by omega] at this
      exact this
    · obtain ⟨G, g1, g2⟩ := hd j h1 h2
      exact (g1.kp hk10 (fun b hb (q : b = _) => by have := (g2 b hb).1; omega)).mono fun b hb => ⟨by have := (g2 b hb).1; have := k8.size; omega, by have := (g2 b hb).2; omega⟩
end
end Go.Proofs.Qxb6500896aGreat
