import Derived.Test.Qxb6500898aL3a
namespace Go.Proofs.Qxb6500898a
open Go.Sh Go.RowKit
set_option linter.unusedVariables false
set_option linter.unusedSimpArgs false

/-- both machines in memory, in the same state -/
structure LR (W w : World) (mb : Nat) (wob : Option Nat) (wv rv : Value) (mm : Nat) (mwb mrb : Option Nat) (mwv mrv : Value) (s : Mst) (j : Nat) : Prop where
  z : LZ W w mb wob wv rv s j
  m : Mm w mm mwb mrb mwv mrv s
  mz : W.heap.size ≤ mm
  dw : ∀ b, wob = some b → mwb ≠ some b ∧ mrb ≠ some b
section
variable {W w w' w0 w2 : World} {v d t wv rv mwv mrv dv t0 t1 t2 : Value} {ob wob mwb mrb mwb0 mrb0 : Option Nat} {mb mm t3 t4 b e m n i j k : Nat} {xs ys zs pr da X Y : List Int} {K : Value → World → Prop} {B1 : List Value → World → Prop} {S S' : Nat → Prop} {L : List Value} {q c z : Int} {little : Bool} {s s' s0 s1 s2 : Mst} {o : Op}
theorem LR.kp' (h : LR W w mb wob wv rv mm mwb mrb mwv mrv s j) (hk : Kp (fun _ => False) w w') : LR W w' mb wob wv rv mm mwb mrb mwv mrv s j := ⟨h.z.kp' hk, h.m.kp' hk, h.mz, h.dw⟩
theorem sl_slice (h : Sl u1 1 w 5 ob v xs) : ∃ a l c, v = .slice a l c := by
  cases ob with
  | none => exact ⟨_, _, _, h.1⟩
  | some b => obtain ⟨c, j, e1, _⟩ := h; exact ⟨_, _, _, e1⟩
theorem left_ok (hr : Row w mb 28 [wv, rv, I (n : Nat), .bool little]) (hb : Bs w rv xs) (hn : n ≤ xs.length) (hl : xs.length ≤ 100000000000) (hK : ∀ w', Kp (fun _ => False) w w' → K (I ((xs.length - n : Nat) : Int)) w') : cl Try.prog 60 #[Pt mb 1] K w := by
  apply c60
  unfold s60_p3 s60_p2 s60_p2_d
  have k1 : Kp (fun _ => False) w (drw w) := kp_drw
  generalize drw w = w1 at k1 ⊢
  have r1 := k1.row' hr
  try simp only [e_fd, e_nck, e_pkt, e_pkf, e_gdtt, e_gdtf, e_gdft, e_gdff, e_ift, e_iff, e_not, e_ln, e_lnT, e_cp, e_cvi, e_ex20, e_ex21, e_ex30, e_ex31, e_ex32, e_add, e_sub, e_mul, e_quo, e_rem, e_and, e_or, e_xor, e_shl, e_shr, e_eql, e_neq, e_lss, e_leq, e_gtr, e_geq, e_beq, e_bne, e_peq1, e_peq2, e_pne1, e_pne2, e_zeq1, e_zeq2, e_zne1, e_zne2, e_feq1, e_fne1, e_feq2, e_fne2, e_seq, e_sne, e_ta1, e_ta2, Nat.zero_add, Nat.add_zero, Bool.not_true, Bool.not_false]
  refine ld1_r r1 rfl ?_
  refine (hb.kp' k1).ln ?_
  try simp only [e_fd, e_nck, e_pkt, e_pkf, e_gdtt, e_gdtf, e_gdft, e_gdff, e_ift, e_iff, e_not, e_ln, e_lnT, e_cp, e_cvi, e_ex20, e_ex21, e_ex30, e_ex31, e_ex32, e_add, e_sub, e_mul, e_quo, e_rem, e_and, e_or, e_xor, e_shl, e_shr, e_eql, e_neq, e_lss, e_leq, e_gtr, e_geq, e_beq, e_bne, e_peq1, e_peq2, e_pne1, e_pne2, e_zeq1, e_zeq2, e_zne1, e_zne2, e_feq1, e_fne1, e_feq2, e_fne2, e_seq, e_sne, e_ta1, e_ta2, Nat.zero_add, Nat.add_zero, Bool.not_true, Bool.not_false]
  refine ld1_r r1 rfl ?_
  try simp only [e_fd, e_nck, e_pkt, e_pkf, e_gdtt, e_gdtf, e_gdft, e_gdff, e_ift, e_iff, e_not, e_ln, e_lnT, e_cp, e_cvi, e_ex20, e_ex21, e_ex30, e_ex31, e_ex32, e_add, e_sub, e_mul, e_quo, e_rem, e_and, e_or, e_xor, e_shl, e_shr, e_eql, e_neq, e_lss, e_leq, e_gtr, e_geq, e_beq, e_bne, e_peq1, e_peq2, e_pne1, e_pne2, e_zeq1, e_zeq2, e_zne1, e_zne2, e_feq1, e_fne1, e_feq2, e_fne2, e_seq, e_sne, e_ta1, e_ta2, Nat.zero_add, Nat.add_zero, Bool.not_true, Bool.not_false]
  rw [wrap64_id (by omega) (by omega), show ((xs.length : Nat) : Int) - ((n : Nat) : Int) = ((xs.length - n : Nat) : Int) by omega]
  unfold s60_p1
  exact hK w1 k1
theorem state_ok (h : Ma W w mb wob wv rv s) (hK : ∀ w', Kp (fun _ => False) w w' → K (.agg #[wv, I ((s.buf.length - s.off : Nat) : Int), .bool s.failed]) w') : cl Try.prog 16 #[Pt mb 0] K w := by
  apply c16
  unfold s16_p3
  refine nw_r fun w1 r1 hk1 hz1 => ?_
  unfold s16_p2 s16_p2_d
  have kd : Kp (fun _ => False) w1 (drw w1) := kp_drw
  generalize drw w1 = w2 at kd ⊢
  have k2 := hk1.trans kd
  have h2 := h.kp' k2
  have r2 := kd.row' r1
  try simp only [e_fd, e_nck, e_pkt, e_pkf, e_gdtt, e_gdtf, e_gdft, e_gdff, e_ift, e_iff, e_not, e_ln, e_lnT, e_cp, e_cvi, e_ex20, e_ex21, e_ex30, e_ex31, e_ex32, e_add, e_sub, e_mul, e_quo, e_rem, e_and, e_or, e_xor, e_shl, e_shr, e_eql, e_neq, e_lss, e_leq, e_gtr, e_geq, e_beq, e_bne, e_peq1, e_peq2, e_pne1, e_pne2, e_zeq1, e_zeq2, e_zne1, e_zne2, e_feq1, e_fne1, e_feq2, e_fne2, e_seq, e_sne, e_ta1, e_ta2, Nat.zero_add, Nat.add_zero, Bool.not_true, Bool.not_false]
  refine ld1_r h2.row rfl ?_
  try simp only [e_fd, e_nck, e_pkt, e_pkf, e_gdtt, e_gdtf, e_gdft, e_gdff, e_ift, e_iff, e_not, e_ln, e_lnT, e_cp, e_cvi, e_ex20, e_ex21, e_ex30, e_ex31, e_ex32, e_add, e_sub, e_mul, e_quo, e_rem, e_and, e_or, e_xor, e_shl, e_shr, e_eql, e_neq, e_lss, e_leq, e_gtr, e_geq, e_beq, e_bne, e_peq1, e_peq2, e_pne1, e_pne2, e_zeq1, e_zeq2, e_zne1, e_zne2, e_feq1, e_fne1, e_feq2, e_fne2, e_seq, e_sne, e_ta1, e_ta2, Nat.zero_add, Nat.add_zero, Bool.not_true, Bool.not_false]
  refine left_ok h2.row h2.rbs h2.off h2.rl fun w3 hk3 => ⟨hk3.below', ?_⟩
  have h3 := h2.kp' hk3
  refine failed_ok h3.row ⟨hk3.below', ?_⟩
  obtain ⟨a, l, c, rfl⟩ := sl_slice h.wk
  refine bdq_r (l := [.slice a l c, I ((s.buf.length - s.off : Nat) : Int), .bool s.failed]) rfl ?_
  refine stn_r (cs := [.slice a l c, I ((s.buf.length - s.off : Nat) : Int), .bool s.failed]) (hk3.row' r2) rfl (show 0 + 3 ≤ 3 by decide) rfl fun w4 r4 hk4 hz4 => ?_
  unfold s16_p1
  refine ldn_r r4 (show 0 + 3 ≤ _ by simp) ?_
  exact hK w4 ((k2.trans hk3).then hk4 (fun b hb (q : b = _) => by omega))
theorem stateM_ok (h : Mm w mm mwb mrb mwv mrv s) (hK : ∀ w' v', Bs w' v' s.work → Kp (fun _ => False) w w' → K (.agg #[v', I ((s.buf.length - s.off : Nat) : Int), .bool s.failed]) w') : cl Try.prog 17 #[Pt mm 0] K w := by
  have hwl := h.wl
  apply c17
  unfold s17_p3
  refine nw_r fun w1 r1 hk1 hz1 => ?_
  unfold s17_p2 s17_p2_d
  have kd : Kp (fun _ => False) w1 (drw w1) := kp_drw
  generalize drw w1 = w2 at kd ⊢
  have k2 := hk1.trans kd
  have h2 := h.kp' k2
  have r2 := kd.row' r1
  try simp only [e_fd, e_nck, e_pkt, e_pkf, e_gdtt, e_gdtf, e_gdft, e_gdff, e_ift, e_iff, e_not, e_ln, e_lnT, e_cp, e_cvi, e_ex20, e_ex21, e_ex30, e_ex31, e_ex32, e_add, e_sub, e_mul, e_quo, e_rem, e_and, e_or, e_xor, e_shl, e_shr, e_eql, e_neq, e_lss, e_leq, e_gtr, e_geq, e_beq, e_bne, e_peq1, e_peq2, e_pne1, e_pne2, e_zeq1, e_zeq2, e_zne1, e_zne2, e_feq1, e_fne1, e_feq2, e_fne2, e_seq, e_sne, e_ta1, e_ta2, Nat.zero_add, Nat.add_zero, Bool.not_true, Bool.not_false]
  refine ld1_r h2.row rfl ?_
  try simp only [e_fd, e_nck, e_pkt, e_pkf, e_gdtt, e_gdtf, e_gdft, e_gdff, e_ift, e_iff, e_not, e_ln, e_lnT, e_cp, e_cvi, e_ex20, e_ex21, e_ex30, e_ex31, e_ex32, e_add, e_sub, e_mul, e_quo, e_rem, e_and, e_or, e_xor, e_shl, e_shr, e_eql, e_neq, e_lss, e_leq, e_gtr, e_geq, e_beq, e_bne, e_peq1, e_peq2, e_pne1, e_pne2, e_zeq1, e_zeq2, e_zne1, e_zne2, e_feq1, e_fne1, e_feq2, e_fne2, e_seq, e_sne, e_ta1, e_ta2, Nat.zero_add, Nat.add_zero, Bool.not_true, Bool.not_false]
  refine ld1_r h2.row rfl ?_
  refine h2.rbs.ln ?_
  try simp only [e_fd, e_nck, e_pkt, e_pkf, e_gdtt, e_gdtf, e_gdft, e_gdff, e_ift, e_iff, e_not, e_ln, e_lnT, e_cp, e_cvi, e_ex20, e_ex21, e_ex30, e_ex31, e_ex32, e_add, e_sub, e_mul, e_quo, e_rem, e_and, e_or, e_xor, e_shl, e_shr, e_eql, e_neq, e_lss, e_leq, e_gtr, e_geq, e_beq, e_bne, e_peq1, e_peq2, e_pne1, e_pne2, e_zeq1, e_zeq2, e_zne1, e_zne2, e_feq1, e_fne1, e_feq2, e_fne2, e_seq, e_sne, e_ta1, e_ta2, Nat.zero_add, Nat.add_zero, Bool.not_true, Bool.not_false]
  refine ld1_r h2.row rfl ?_
  refine copy_ok h2.wbs (by omega) fun w3 b3 v3 s3 hb3 hk3 => ⟨hk3.below', ?_⟩
  have hdl : (s.buf.drop s.off).length = s.buf.length - s.off := List.length_drop
  rw [hdl]
  have hne : b3 ≠ w.heap.size := by have := r2.lt; omega
  obtain ⟨a, l, c, rfl⟩ := sl_slice s3
  refine bdq_r (l := [.slice a l c, I ((s.buf.length - s.off : Nat) : Int), .bool s.failed]) rfl ?_
  refine stn_r (cs := [.slice a l c, I ((s.buf.length - s.off : Nat) : Int), .bool s.failed]) (hk3.row' r2) rfl (show 0 + 3 ≤ 3 by decide) rfl fun w4 r4 hk4 hz4 => ?_
  unfold s17_p1
  refine ldn_r r4 (show 0 + 3 ≤ _ by simp) ?_
  refine hK w4 _ (sl_bs (s3.kp hk4 (fun b hb (q : b = _) => by cases hb; exact hne q)) h.wby (by omega)) ((k2.trans hk3).then hk4 (fun b hb (q : b = _) => by omega))
/-- octets do not lie in the model's record -/
theorem bs_nm (h : Bs w v xs) (hm : Mm w mm mwb mrb mwv mrv s) (hk : Kp (fun k => k = mm) w w') : Bs w' v xs := by
  refine ⟨h.by_, ?_⟩
  rcases h.at_ with q | q | ⟨b, o, cap, h1, h2, h3, h4⟩
  · exact .inl q
  · exact .inr (.inl q)
  · by_cases h0 : 0 < xs.length
    · refine .inr (.inr ⟨b, o, cap, h1, h2, h3, h4.kp hk (fun (e : b = mm) => ?_)⟩)
      subst e
      have hc := h4 0 (by rw [List.length_map]; exact h0)
      rw [hm.row.cell, List.getElem?_map, List.getElem?_eq_getElem h0] at hc
      obtain ⟨a1, l1, c1, e1⟩ := sl_slice hm.wk
      obtain ⟨a2, l2, c2, e2⟩ := sl_slice hm.rd
      subst e1; subst e2
      have ho : o = 0 ∨ o = 1 ∨ o = 2 ∨ ∃ q, o = q + 3 := by
        rcases Nat.lt_or_ge o 3 with q | q
        · omega
        · exact .inr (.inr (.inr ⟨o - 3, by omega⟩))
      rcases ho with rfl | rfl | rfl | ⟨q, rfl⟩
      · simp at hc
      · simp at hc
      · simp at hc
      · simp at hc
    · have e : xs = [] := List.eq_nil_of_length_eq_zero (by omega)
      subst e
      exact .inr (.inl ⟨⟨b, o, none⟩, cap, h1, rfl⟩)
end
end Go.Proofs.Qxb6500898a
