import Derived.Test.Qxb6500894aDoorF4
namespace Go.Proofs.Qxb6500894aDoor
open Go.Sh Go.RowKit
set_option linter.unusedVariables false
set_option linter.unusedSimpArgs false

section
variable {W w w' w2 : World} {v t0 rv e0 : Value} {ob : Option Nat} {xs ys rest : List Int} {K : Value → World → Prop} {B1 : List Value → World → Prop} {f i n db eb : Nat} {kk : World → Prop} {a b c d k : Int}
theorem ldg (h : w.cell? ⟨0, 0, none⟩ = some e0) (hK : K e0 w) : ld1 (.pointer (some ⟨0, 0, none⟩)) K w := ⟨e0, h, hK⟩
theorem kp_cell {S : Nat → Prop} (h : Kp S w w') (hS : ¬ S 0) (hc : w.cell? ⟨0, 0, none⟩ = some e0) : w'.cell? ⟨0, 0, none⟩ = some e0 := by
  have hlt : 0 < w.heap.size := by
    rcases Nat.eq_zero_or_pos w.heap.size with q | q
    · simp [World.cell?, Array.getElem?_eq_none (show w.heap.size ≤ 0 by omega)] at hc
    · exact q
  simp only [World.cell?] at hc ⊢
  rw [h.block 0 hlt hS]
  exact hc
theorem toVs (h : Sl u1 1 w 5 (some eb) v xs) (hl : xs.length ≤ 1000000) : Vs U8 w v xs ∧ (∀ a l c, v = .slice (some a) l c → a.block = eb) := by
  obtain ⟨cap, junk, rfl, h1, h2, r⟩ := h
  rw [rows_u1] at r
  refine ⟨vs_row r h1 (by omega), fun a l c e => ?_⟩
  cases e; rfl
def zero5 : List Value := [I 0, I 0, I 0, I 0, U8 0]
/-- what reading a rejection back gives -/
def decR (e0 : Value) (a b c d k : Int) : Value := if k = 0 ∨ 16 ≤ k then .tuple #[.agg zero5.toArray, e0] else .tuple #[.agg #[I a, I b, I c, I d, U8 k], .nilIface]
theorem decode_ok (ra : i64r a) (rb : i64r b) (rc : i64r c) (rd : i64r d) (h : Sl u1 1 w 5 (some eb) v (k :: encLoc a b c d)) (hg : w.cell? ⟨0, 0, none⟩ = some e0)
    (hK : ∀ w', Kp (fun _ => False) w w' → K (decR e0 a b c d k) w') : cl Tryd.prog 26 #[v] K w := by
  have la : (uv (zz a)).length ≤ 10 := uv_len
  have lb : (uv (zz b)).length ≤ 10 := uv_len
  have lc : (uv (zz c)).length ≤ 10 := uv_len
  have ld : (uv (zz d)).length ≤ 10 := uv_len
  have hlen : (encLoc a b c d).length ≤ 40 := by unfold encLoc; simp only [List.length_append]; omega
  obtain ⟨hv, hbk⟩ := toVs h (by rw [List.length_cons]; omega)
  obtain ⟨cap, junk, ev, hcap, hjl, hrow⟩ := h
  have heb := hrow.lt
  apply c26
  unfold s26_p5
  refine nw_r fun w1 r1 hk1 hz1 => ?_
  replace r1 : Row w1 w.heap.size 70 zero5 := r1
  refine bdq_r (l := [v, .bool false]) (by rw [ev]; rfl) ?_
  refine nw_r fun w2 r2 hk2 hz2 => ?_
  have r12 := hk2.row' r1
  have sz1 := hk1.size
  refine stn_r (cs := [v, .bool false]) r2 rfl (show 0 + 2 ≤ 2 by decide) (by rw [ev]; rfl) fun w3 r3 hk3 hz3 => ?_
  replace r3 : Row w3 w1.heap.size 122 [v, .bool false] := r3
  have k12 : Kp (fun _ => False) w w2 := hk1.trans hk2
  have k13 : Kp (fun k => k = w1.heap.size) w w3 := k12.none.trans hk3
  have d3 : Dc w3 w1.heap.size eb v (k :: encLoc a b c d) := ⟨r3, hv.kp k13 (fun b o c' _ e (q : b = _) => by have q2 : b = eb := hbk _ _ _ e; omega), hbk, by omega⟩
  have e1 : k :: encLoc a b c d = k :: (encLoc a b c d ++ []) := by rw [List.append_nil]
  rw [e1] at d3
  refine byte_ok d3 fun w4 rv4 d4 hk4 => ?_
  refine loc_ok ra rb rc rd d4 (by simp) fun w5 rv5 d5 hk5 => ?_
  refine bdq_r (l := [I a, I b, I c, I d, U8 k]) rfl ?_
  have k15 : Kp (fun k => k = w1.heap.size) w w5 := (k13.trans hk4).trans hk5
  have k15' : Kp (fun _ => False) w w5 := k15.mono fun j hj q => by omega
  have sz5 := k15.size
  have r15 := hk5.row (hk4.row (hk3.row r12 (by omega)) (by omega)) (by omega)
  refine nw_r fun w6 r6 hk6 hz6 => ?_
  have d6 := d5.kp' hk6
  refine stn_r (cs := [I a, I b, I c, I d, U8 k]) r6 rfl (show 0 + 5 ≤ 5 by decide) rfl fun w7 r7 hk7 hz7 => ?_
  replace r7 : Row w7 w5.heap.size 70 [I a, I b, I c, I d, U8 k] := r7
  have lt5 := d5.row.lt
  have d7r := hk7.row d6.row (show ¬ w1.heap.size = w5.heap.size by omega)
  have r17 := hk7.row (hk6.row' r15) (show ¬ w.heap.size = w5.heap.size by omega)
  have k17 : Kp (fun _ => False) w w7 := (k15'.trans hk6).then hk7 (fun b hb (q : b = _) => by omega)
  try simp only [e_fd, e_nck, e_pkt, e_pkf, e_gdtt, e_gdtf, e_gdft, e_gdff, e_ift, e_iff, e_not, e_ln, e_lnT, e_cp, e_cvi, e_ex20, e_ex21, e_ex30, e_ex31, e_ex32, e_add, e_sub, e_mul, e_quo, e_rem, e_and, e_or, e_xor, e_shl, e_shr, e_eql, e_neq, e_lss, e_leq, e_gtr, e_geq, e_beq, e_bne, e_peq1, e_peq2, e_pne1, e_pne2, e_zeq1, e_zeq2, e_zne1, e_zne2, e_feq1, e_fne1, e_feq2, e_fne2, e_seq, e_sne, e_ta1, e_ta2, Nat.zero_add, Nat.add_zero, Bool.not_true, Bool.not_false]
  refine ld1_r d7r rfl ?_
  try simp only [e_fd, e_nck, e_pkt, e_pkf, e_gdtt, e_gdtf, e_gdft, e_gdff, e_ift, e_iff, e_not, e_ln, e_lnT, e_cp, e_cvi, e_ex20, e_ex21, e_ex30, e_ex31, e_ex32, e_add, e_sub, e_mul, e_quo, e_rem, e_and, e_or, e_xor, e_shl, e_shr, e_eql, e_neq, e_lss, e_leq, e_gtr, e_geq, e_beq, e_bne, e_peq1, e_peq2, e_pne1, e_pne2, e_zeq1, e_zeq2, e_zne1, e_zne2, e_feq1, e_fne1, e_feq2, e_fne2, e_seq, e_sne, e_ta1, e_ta2, Nat.zero_add, Nat.add_zero, Bool.not_true, Bool.not_false]
  refine ld1_r d7r rfl ?_
  have v7 : Vs U8 w7 rv5 [] := d6.vs.kp hk7 (fun b o c h0 => by simp at h0)
  refine v7.ln ?_
  simp only [List.length_nil, e_fd, e_nck, e_pkt, e_pkf, e_gdtt, e_gdtf, e_gdft, e_gdff, e_ift, e_iff, e_not, e_ln, e_lnT, e_cp, e_cvi, e_ex20, e_ex21, e_ex30, e_ex31, e_ex32, e_add, e_sub, e_mul, e_quo, e_rem, e_and, e_or, e_xor, e_shl, e_shr, e_eql, e_neq, e_lss, e_leq, e_gtr, e_geq, e_beq, e_bne, e_peq1, e_peq2, e_pne1, e_pne2, e_zeq1, e_zeq2, e_zne1, e_zne2, e_feq1, e_fne1, e_feq2, e_fne2, e_seq, e_sne, e_ta1, e_ta2, Nat.zero_add, Nat.add_zero, Bool.not_true, Bool.not_false]
  have e2 : (((0 : Nat) : Int) != 0) = false := rfl
  simp only [e2, e_fd, e_nck, e_pkt, e_pkf, e_gdtt, e_gdtf, e_gdft, e_gdff, e_ift, e_iff, e_not, e_ln, e_lnT, e_cp, e_cvi, e_ex20, e_ex21, e_ex30, e_ex31, e_ex32, e_add, e_sub, e_mul, e_quo, e_rem, e_and, e_or, e_xor, e_shl, e_shr, e_eql, e_neq, e_lss, e_leq, e_gtr, e_geq, e_beq, e_bne, e_peq1, e_peq2, e_pne1, e_pne2, e_zeq1, e_zeq2, e_zne1, e_zne2, e_feq1, e_fne1, e_feq2, e_fne2, e_seq, e_sne, e_ta1, e_ta2, Nat.zero_add, Nat.add_zero, Bool.not_true, Bool.not_false]
  refine ld1_r r7 rfl ?_
  try simp only [e_fd, e_nck, e_pkt, e_pkf, e_gdtt, e_gdtf, e_gdft, e_gdff, e_ift, e_iff, e_not, e_ln, e_lnT, e_cp, e_cvi, e_ex20, e_ex21, e_ex30, e_ex31, e_ex32, e_add, e_sub, e_mul, e_quo, e_rem, e_and, e_or, e_xor, e_shl, e_shr, e_eql, e_neq, e_lss, e_leq, e_gtr, e_geq, e_beq, e_bne, e_peq1, e_peq2, e_pne1, e_pne2, e_zeq1, e_zeq2, e_zne1, e_zne2, e_feq1, e_fne1, e_feq2, e_fne2, e_seq, e_sne, e_ta1, e_ta2, Nat.zero_add, Nat.add_zero, Bool.not_true, Bool.not_false]
  have hbad : k = 0 ∨ 16 ≤ k → s26_p3 K (.pointer (some ⟨w.heap.size, 0, none⟩)) w7 := by
    intro hk
    have hfin : ∀ w', Row w' w.heap.size 70 zero5 → Kp (fun _ => False) w w' → s26_p2 K (.pointer (some ⟨w.heap.size, 0, none⟩)) e0 w' := by
      intro w' r' k'
      unfold s26_p2
      refine ldn_r r' (show 0 + 5 ≤ 5 by decide) ?_
      have := hK w' k'
      rw [decR, if_pos hk] at this
      exact this
    unfold s26_p3 s26_p3_d
    have kd : Kp (fun _ => False) w7 (drw w7) := kp_drw
    generalize drw w7 = w8 at kd ⊢
    have r18 := kd.row' r17
    have k18 := k17.trans kd
    have hg8 := kp_cell k18 (fun q => q) hg
    have hst : ∀ kk : World → Prop, (∀ w', Row w' w.heap.size 70 zero5 → Kp (fun _ => False) w w' → kk w') → stn 5 (.pointer (some ⟨w.heap.size, 0, none⟩)) (.agg zero5.toArray) kk w8 := by
      intro kk hkk
      refine stn_r (cs := zero5) r18 rfl (show 0 + 5 ≤ 5 by decide) rfl fun w9 r9 hk9 hz9 => ?_
      exact hkk w9 r9 (k18.then hk9 (fun b hb (q : b = _) => by omega))
    refine ⟨?_, ?_⟩
    · refine bdq_r (l := zero5) rfl ⟨?_, ?_⟩
      · refine ldg hg8 (hst _ fun w' r' k' => hfin w' r' k')
      · refine hst _ fun w' r' k' => ldg (kp_cell k' (fun q => q) hg) (hfin w' r' k')
    · refine ldg hg8 ?_
      refine bdq_r (l := zero5) rfl ?_
      exact hst _ fun w' r' k' => hfin w' r' k'
  by_cases hk0 : k = 0
  · have e3 : (k == 0) = true := by rw [beq_iff_eq]; exact hk0
    simp only [e3, e_fd, e_nck, e_pkt, e_pkf, e_gdtt, e_gdtf, e_gdft, e_gdff, e_ift, e_iff, e_not, e_ln, e_lnT, e_cp, e_cvi, e_ex20, e_ex21, e_ex30, e_ex31, e_ex32, e_add, e_sub, e_mul, e_quo, e_rem, e_and, e_or, e_xor, e_shl, e_shr, e_eql, e_neq, e_lss, e_leq, e_gtr, e_geq, e_beq, e_bne, e_peq1, e_peq2, e_pne1, e_pne2, e_zeq1, e_zeq2, e_zne1, e_zne2, e_feq1, e_fne1, e_feq2, e_fne2, e_seq, e_sne, e_ta1, e_ta2, Nat.zero_add, Nat.add_zero, Bool.not_true, Bool.not_false]
    unfold s26_p4
    try simp only [e_fd, e_nck, e_pkt, e_pkf, e_gdtt, e_gdtf, e_gdft, e_gdff, e_ift, e_iff, e_not, e_ln, e_lnT, e_cp, e_cvi, e_ex20, e_ex21, e_ex30, e_ex31, e_ex32, e_add, e_sub, e_mul, e_quo, e_rem, e_and, e_or, e_xor, e_shl, e_shr, e_eql, e_neq, e_lss, e_leq, e_gtr, e_geq, e_beq, e_bne, e_peq1, e_peq2, e_pne1, e_pne2, e_zeq1, e_zeq2, e_zne1, e_zne2, e_feq1, e_fne1, e_feq2, e_fne2, e_seq, e_sne, e_ta1, e_ta2, Nat.zero_add, Nat.add_zero, Bool.not_true, Bool.not_false]
    exact hbad (.inl hk0)
  · have e3 : (k == 0) = false := by rw [beq_eq_false_iff_ne]; exact hk0
    simp only [e3, e_fd, e_nck, e_pkt, e_pkf, e_gdtt, e_gdtf, e_gdft, e_gdff, e_ift, e_iff, e_not, e_ln, e_lnT, e_cp, e_cvi, e_ex20, e_ex21, e_ex30, e_ex31, e_ex32, e_add, e_sub, e_mul, e_quo, e_rem, e_and, e_or, e_xor, e_shl, e_shr, e_eql, e_neq, e_lss, e_leq, e_gtr, e_geq, e_beq, e_bne, e_peq1, e_peq2, e_pne1, e_pne2, e_zeq1, e_zeq2, e_zne1, e_zne2, e_feq1, e_fne1, e_feq2, e_fne2, e_seq, e_sne, e_ta1, e_ta2, Nat.zero_add, Nat.add_zero, Bool.not_true, Bool.not_false]
    refine ld1_r r7 rfl ?_
    try simp only [e_fd, e_nck, e_pkt, e_pkf, e_gdtt, e_gdtf, e_gdft, e_gdff, e_ift, e_iff, e_not, e_ln, e_lnT, e_cp, e_cvi, e_ex20, e_ex21, e_ex30, e_ex31, e_ex32, e_add, e_sub, e_mul, e_quo, e_rem, e_and, e_or, e_xor, e_shl, e_shr, e_eql, e_neq, e_lss, e_leq, e_gtr, e_geq, e_beq, e_bne, e_peq1, e_peq2, e_pne1, e_pne2, e_zeq1, e_zeq2, e_zne1, e_zne2, e_feq1, e_fne1, e_feq2, e_fne2, e_seq, e_sne, e_ta1, e_ta2, Nat.zero_add, Nat.add_zero, Bool.not_true, Bool.not_false]
    by_cases h16 : 16 ≤ k
    · simp only [h16, decide_true, e_fd, e_nck, e_pkt, e_pkf, e_gdtt, e_gdtf, e_gdft, e_gdff, e_ift, e_iff, e_not, e_ln, e_lnT, e_cp, e_cvi, e_ex20, e_ex21, e_ex30, e_ex31, e_ex32, e_add, e_sub, e_mul, e_quo, e_rem, e_and, e_or, e_xor, e_shl, e_shr, e_eql, e_neq, e_lss, e_leq, e_gtr, e_geq, e_beq, e_bne, e_peq1, e_peq2, e_pne1, e_pne2, e_zeq1, e_zeq2, e_zne1, e_zne2, e_feq1, e_fne1, e_feq2, e_fne2, e_seq, e_sne, e_ta1, e_ta2, Nat.zero_add, Nat.add_zero, Bool.not_true, Bool.not_false]
      unfold s26_p4
      try simp only [e_fd, e_nck, e_pkt, e_pkf, e_gdtt, e_gdtf, e_gdft, e_gdff, e_ift, e_iff, e_not, e_ln, e_lnT, e_cp, e_cvi, e_ex20, e_ex21, e_ex30, e_ex31, e_ex32, e_add, e_sub, e_mul, e_quo, e_rem, e_and, e_or, e_xor, e_shl, e_shr, e_eql, e_neq, e_lss, e_leq, e_gtr, e_geq, e_beq, e_bne, e_peq1, e_peq2, e_pne1, e_pne2, e_zeq1, e_zeq2, e_zne1, e_zne2, e_feq1, e_fne1, e_feq2, e_fne2, e_seq, e_sne, e_ta1, e_ta2, Nat.zero_add, Nat.add_zero, Bool.not_true, Bool.not_false]
      exact hbad (.inr h16)
    · simp only [h16, decide_false, e_fd, e_nck, e_pkt, e_pkf, e_gdtt, e_gdtf, e_gdft, e_gdff, e_ift, e_iff, e_not, e_ln, e_lnT, e_cp, e_cvi, e_ex20, e_ex21, e_ex30, e_ex31, e_ex32, e_add, e_sub, e_mul, e_quo, e_rem, e_and, e_or, e_xor, e_shl, e_shr, e_eql, e_neq, e_lss, e_leq, e_gtr, e_geq, e_beq, e_bne, e_peq1, e_peq2, e_pne1, e_pne2, e_zeq1, e_zeq2, e_zne1, e_zne2, e_feq1, e_fne1, e_feq2, e_fne2, e_seq, e_sne, e_ta1, e_ta2, Nat.zero_add, Nat.add_zero, Bool.not_true, Bool.not_false]
      unfold s26_p4
      try simp only [e_fd, e_nck, e_pkt, e_pkf, e_gdtt, e_gdtf, e_gdft, e_gdff, e_ift, e_iff, e_not, e_ln, e_lnT, e_cp, e_cvi, e_ex20, e_ex21, e_ex30, e_ex31, e_ex32, e_add, e_sub, e_mul, e_quo, e_rem, e_and, e_or, e_xor, e_shl, e_shr, e_eql, e_neq, e_lss, e_leq, e_gtr, e_geq, e_beq, e_bne, e_peq1, e_peq2, e_pne1, e_pne2, e_zeq1, e_zeq2, e_zne1, e_zne2, e_feq1, e_fne1, e_feq2, e_fne2, e_seq, e_sne, e_ta1, e_ta2, Nat.zero_add, Nat.add_zero, Bool.not_true, Bool.not_false]
      unfold s26_p1
      refine ldn_r r7 (show 0 + 5 ≤ 5 by decide) ?_
      refine stn_r (cs := [I a, I b, I c, I d, U8 k]) r17 rfl (show 0 + 5 ≤ 5 by decide) rfl fun w8 r8 hk8 hz8 => ?_
      refine ldn_r r8 (show 0 + 5 ≤ _ by simp [zero5]) ?_
      have := hK w8 (k17.then hk8 (fun b hb (q : b = _) => by omega))
      rw [decR, if_neg (by omega)] at this
      exact this
end
end Go.Proofs.Qxb6500894aDoor
