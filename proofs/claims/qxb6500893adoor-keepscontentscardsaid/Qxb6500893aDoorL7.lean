import Derived.Test.Qxb6500893aDoorA20
namespace Go.Proofs.Qxb6500893aDoor
open Go.Sh Go.RowKit
set_option linter.unusedVariables false
set_option linter.unusedSimpArgs false

section
variable {W w w' : World} {v : Value} {ops : List Op} {K : Value → World → Prop} {B1 B2 : List Value → World → Prop} {s : Ws} {m : Wm} {F : Nat → List Nat}
theorem tkS_0 (h : LSt W w m s) : tkS s 0 = s := by unfold tkS tk; rw [tick_0 h.wd.arn.st]
/-- the words of one block -/
theorem law7_words {x : Lb} {q tb i : Nat} {t16 t17 t18 t33 t34 : Value} (h : LSt W w m (tkS s q)) (hx : x ∈ s.L) (hxw : x.ws = cutW s.A.ws x.at_ x.ws.length) (hat : x.at_ + x.ws.length ≤ 4096) (rt : Row w tb 66 (lbV x)) (hI : ¬ OwnW m s.L tb) (hi : i < 1000000)
    (next : ∀ w' q', LSt W w' m (tkS s q') → B2 [P m.wdb 0, t16, t17, t18, t33, t34, I (i + 1 : Nat)] w') :
    s7_p9 K B1 B2 (P m.wdb 0) (P tb 0) t16 t17 t18 t33 t34 (I i) (.slice (some ⟨x.b, 0, none⟩) x.ws.length x.ws.length) (I x.ws.length) (I 0) w := by
  unfold s7_p9
  refine ⟨fun n l w' => ∃ (k q' : Nat), n + k = x.ws.length ∧ l = [P m.wdb 0, P tb 0, t16, t17, t18, t33, t34, I i, .slice (some ⟨x.b, 0, none⟩) x.ws.length x.ws.length, I x.ws.length, I k] ∧ LSt W w' m (tkS s q') ∧ Row w' tb 66 (lbV x),
    x.ws.length, ⟨0, q, rfl, rfl, h, rt⟩, ?_⟩
  rintro n l w1 ⟨k, q1, hn, rfl, h1, r1⟩
  rw [s7_p9_Fe]
  unfold s7_p8
  try simp only [e_fd, e_nck, e_pkt, e_pkf, e_gdtt, e_gdtf, e_gdft, e_gdff, e_ift, e_iff, e_not, e_ln, e_lnT, e_cp, e_cvi, e_ex20, e_ex21, e_ex30, e_ex31, e_ex32, e_add, e_sub, e_mul, e_quo, e_rem, e_and, e_or, e_xor, e_shl, e_shr, e_eql, e_neq, e_lss, e_leq, e_gtr, e_geq, e_beq, e_bne, e_peq1, e_peq2, e_pne1, e_pne2, e_zeq1, e_zeq2, e_zne1, e_zne2, e_feq1, e_fne1, e_feq2, e_fne2, e_seq, e_sne, e_ta1, e_ta2, Nat.zero_add, Nat.add_zero, Bool.not_true, Bool.not_false]
  have hlen : x.ws.length ≤ 4096 := by omega
  by_cases hlt : k < x.ws.length
  · have hlt' : (k : Int) < ((x.ws.length : Nat) : Int) := by omega
    simp only [hlt', decide_true, e_fd, e_nck, e_pkt, e_pkf, e_gdtt, e_gdtf, e_gdft, e_gdff, e_ift, e_iff, e_not, e_ln, e_lnT, e_cp, e_cvi, e_ex20, e_ex21, e_ex30, e_ex31, e_ex32, e_add, e_sub, e_mul, e_quo, e_rem, e_and, e_or, e_xor, e_shl, e_shr, e_eql, e_neq, e_lss, e_leq, e_gtr, e_geq, e_beq, e_bne, e_peq1, e_peq2, e_pne1, e_pne2, e_zeq1, e_zeq2, e_zne1, e_zne2, e_feq1, e_fne1, e_feq2, e_fne2, e_seq, e_sne, e_ta1, e_ta2, Nat.zero_add, Nat.add_zero, Bool.not_true, Bool.not_false]
    unfold s7_p7
    refine ix_1 hlt ?_
    have rw1 : Row w1 x.b 71 (x.ws.map U64) := h1.wd.live.rw x hx
    refine ld1_r rw1 (v := U64 x.ws[k]) (by rw [List.getElem?_map, List.getElem?_eq_getElem hlt]; rfl) ?_
    unfold s7_p6 s7_p6_d
    have h2 := h1.kp' (w' := drw w1) kp_drw
    have r2 := r1.drw
    generalize drw w1 = w2 at h2 r2 ⊢
    try simp only [e_fd, e_nck, e_pkt, e_pkf, e_gdtt, e_gdtf, e_gdft, e_gdff, e_ift, e_iff, e_not, e_ln, e_lnT, e_cp, e_cvi, e_ex20, e_ex21, e_ex30, e_ex31, e_ex32, e_add, e_sub, e_mul, e_quo, e_rem, e_and, e_or, e_xor, e_shl, e_shr, e_eql, e_neq, e_lss, e_leq, e_gtr, e_geq, e_beq, e_bne, e_peq1, e_peq2, e_pne1, e_pne2, e_zeq1, e_zeq2, e_zne1, e_zne2, e_feq1, e_fne1, e_feq2, e_fne2, e_seq, e_sne, e_ta1, e_ta2, Nat.zero_add, Nat.add_zero, Bool.not_true, Bool.not_false]
    refine ld1_r h2.wd.row rfl ?_
    refine ld1_r r2 (v := U32 x.at_) rfl ?_
    try simp only [e_fd, e_nck, e_pkt, e_pkf, e_gdtt, e_gdtf, e_gdft, e_gdff, e_ift, e_iff, e_not, e_ln, e_lnT, e_cp, e_cvi, e_ex20, e_ex21, e_ex30, e_ex31, e_ex32, e_add, e_sub, e_mul, e_quo, e_rem, e_and, e_or, e_xor, e_shl, e_shr, e_eql, e_neq, e_lss, e_leq, e_gtr, e_geq, e_beq, e_bne, e_peq1, e_peq2, e_pne1, e_pne2, e_zeq1, e_zeq2, e_zne1, e_zne2, e_feq1, e_fne1, e_feq2, e_fne2, e_seq, e_sne, e_ta1, e_ta2, Nat.zero_add, Nat.add_zero, Bool.not_true, Bool.not_false]
    rw [w32 (show k < 4294967296 by omega), show ((x.at_ : Nat) : Int) + ((k : Nat) : Int) = ((x.at_ + k : Nat) : Int) by omega, w32 (show x.at_ + k < 4294967296 by omega)]
    refine h2.load (by omega) fun w3 h3 hk3 => ?_
    have r3 := hk3.row r2 (fun (e : _ = _) => row_ne r2 h2.wd.arn.row (by decide) e)
    have ew : (tkS s q1).A.ws (x.at_ + k) = x.ws[k] := by
      have e1 : x.ws[k]? = (cutW s.A.ws x.at_ x.ws.length)[k]? := by rw [← hxw]
      unfold cutW at e1
      rw [List.getElem?_eq_getElem hlt, List.getElem?_map, List.getElem?_range hlt] at e1
      show s.A.ws (x.at_ + k) = x.ws[k]
      simpa using e1.symm
    rw [ew]
    simp only [and_self, e_fd, e_nck, e_pkt, e_pkf, e_gdtt, e_gdtf, e_gdft, e_gdff, e_ift, e_iff, e_not, e_ln, e_lnT, e_cp, e_cvi, e_ex20, e_ex21, e_ex30, e_ex31, e_ex32, e_add, e_sub, e_mul, e_quo, e_rem, e_and, e_or, e_xor, e_shl, e_shr, e_eql, e_neq, e_lss, e_leq, e_gtr, e_geq, e_beq, e_bne, e_peq1, e_peq2, e_pne1, e_pne2, e_zeq1, e_zeq2, e_zne1, e_zne2, e_feq1, e_fne1, e_feq2, e_fne2, e_seq, e_sne, e_ta1, e_ta2, Nat.zero_add, Nat.add_zero, Bool.not_true, Bool.not_false]
    unfold s7_p5
    simp only [bne_self_eq_false, e_fd, e_nck, e_pkt, e_pkf, e_gdtt, e_gdtf, e_gdft, e_gdff, e_ift, e_iff, e_not, e_ln, e_lnT, e_cp, e_cvi, e_ex20, e_ex21, e_ex30, e_ex31, e_ex32, e_add, e_sub, e_mul, e_quo, e_rem, e_and, e_or, e_xor, e_shl, e_shr, e_eql, e_neq, e_lss, e_leq, e_gtr, e_geq, e_beq, e_bne, e_peq1, e_peq2, e_pne1, e_pne2, e_zeq1, e_zeq2, e_zne1, e_zne2, e_feq1, e_fne1, e_feq2, e_fne2, e_seq, e_sne, e_ta1, e_ta2, Nat.zero_add, Nat.add_zero, Bool.not_true, Bool.not_false]
    unfold s7_p4
    try simp only [e_fd, e_nck, e_pkt, e_pkf, e_gdtt, e_gdtf, e_gdft, e_gdff, e_ift, e_iff, e_not, e_ln, e_lnT, e_cp, e_cvi, e_ex20, e_ex21, e_ex30, e_ex31, e_ex32, e_add, e_sub, e_mul, e_quo, e_rem, e_and, e_or, e_xor, e_shl, e_shr, e_eql, e_neq, e_lss, e_leq, e_gtr, e_geq, e_beq, e_bne, e_peq1, e_peq2, e_pne1, e_pne2, e_zeq1, e_zeq2, e_zne1, e_zne2, e_feq1, e_fne1, e_feq2, e_fne2, e_seq, e_sne, e_ta1, e_ta2, Nat.zero_add, Nat.add_zero, Bool.not_true, Bool.not_false]
    rw [wrap64_id (by omega) (by omega)]
    refine ⟨n - 1, by omega, k + 1, q1 + 1, by omega, by simp, ?_, r3⟩
    rw [← tkS_add]; exact h3
  · have hlt' : ¬ (k : Int) < ((x.ws.length : Nat) : Int) := by omega
    simp only [hlt', decide_false, e_fd, e_nck, e_pkt, e_pkf, e_gdtt, e_gdtf, e_gdft, e_gdff, e_ift, e_iff, e_not, e_ln, e_lnT, e_cp, e_cvi, e_ex20, e_ex21, e_ex30, e_ex31, e_ex32, e_add, e_sub, e_mul, e_quo, e_rem, e_and, e_or, e_xor, e_shl, e_shr, e_eql, e_neq, e_lss, e_leq, e_gtr, e_geq, e_beq, e_bne, e_peq1, e_peq2, e_pne1, e_pne2, e_zeq1, e_zeq2, e_zne1, e_zne2, e_feq1, e_fne1, e_feq2, e_fne2, e_seq, e_sne, e_ta1, e_ta2, Nat.zero_add, Nat.add_zero, Bool.not_true, Bool.not_false]
    unfold s7_p3
    try simp only [e_fd, e_nck, e_pkt, e_pkf, e_gdtt, e_gdtf, e_gdft, e_gdff, e_ift, e_iff, e_not, e_ln, e_lnT, e_cp, e_cvi, e_ex20, e_ex21, e_ex30, e_ex31, e_ex32, e_add, e_sub, e_mul, e_quo, e_rem, e_and, e_or, e_xor, e_shl, e_shr, e_eql, e_neq, e_lss, e_leq, e_gtr, e_geq, e_beq, e_bne, e_peq1, e_peq2, e_pne1, e_pne2, e_zeq1, e_zeq2, e_zne1, e_zne2, e_feq1, e_fne1, e_feq2, e_fne2, e_seq, e_sne, e_ta1, e_ta2, Nat.zero_add, Nat.add_zero, Bool.not_true, Bool.not_false]
    rw [wrap64_id (by omega) (by omega)]
    exact next w1 q1 h1
/-- all blocks in use -/
theorem law7_blocks {t16 t17 : Value} {j : Nat} (h : LSt W w m s) (hI : PInv s.A.ws s.T s.L F) (hg : LiveIn s.L) (hL : s.L.length ≤ 900000) (hj : j < 1000000)
    (next : ∀ w' q, LSt W w' m (tkS s q) → B1 [P m.wdb 0, t16, t17, I (j + 1 : Nat)] w') :
    s7_p12 K B1 (P m.wdb 0) t16 t17 (I j) m.lv (I s.L.length) (I 0) w := by
  unfold s7_p12
  refine ⟨fun n l w' => ∃ (i q : Nat), n + i = s.L.length ∧ l = [P m.wdb 0, t16, t17, I j, m.lv, I s.L.length, I i] ∧ LSt W w' m (tkS s q),
    s.L.length, ⟨0, 0, rfl, rfl, by rw [tkS_0 h]; exact h⟩, ?_⟩
  rintro n l w1 ⟨i, q, hn, rfl, h1⟩
  rw [s7_p12_Fe]
  unfold s7_p11
  try simp only [e_fd, e_nck, e_pkt, e_pkf, e_gdtt, e_gdtf, e_gdft, e_gdff, e_ift, e_iff, e_not, e_ln, e_lnT, e_cp, e_cvi, e_ex20, e_ex21, e_ex30, e_ex31, e_ex32, e_add, e_sub, e_mul, e_quo, e_rem, e_and, e_or, e_xor, e_shl, e_shr, e_eql, e_neq, e_lss, e_leq, e_gtr, e_geq, e_beq, e_bne, e_peq1, e_peq2, e_pne1, e_pne2, e_zeq1, e_zeq2, e_zne1, e_zne2, e_feq1, e_fne1, e_feq2, e_fne2, e_seq, e_sne, e_ta1, e_ta2, Nat.zero_add, Nat.add_zero, Bool.not_true, Bool.not_false]
  by_cases hlt : i < s.L.length
  · have hlt' : (i : Int) < ((s.L.length : Nat) : Int) := by omega
    simp only [hlt', decide_true, e_fd, e_nck, e_pkt, e_pkf, e_gdtt, e_gdtf, e_gdft, e_gdff, e_ift, e_iff, e_not, e_ln, e_lnT, e_cp, e_cvi, e_ex20, e_ex21, e_ex30, e_ex31, e_ex32, e_add, e_sub, e_mul, e_quo, e_rem, e_and, e_or, e_xor, e_shl, e_shr, e_eql, e_neq, e_lss, e_leq, e_gtr, e_geq, e_beq, e_bne, e_peq1, e_peq2, e_pne1, e_pne2, e_zeq1, e_zeq2, e_zne1, e_zne2, e_feq1, e_fne1, e_feq2, e_fne2, e_seq, e_sne, e_ta1, e_ta2, Nat.zero_add, Nat.add_zero, Bool.not_true, Bool.not_false]
    unfold s7_p10
    have sl1 : Sl lbV 3 w1 66 m.lob m.lv s.L := h1.wd.live.sl
    refine sl1.read lbV_len hlt ?_
    refine nw_r fun w2 r2 hk2 hz2 => ?_
    refine stn_r (cs := lbV s.L[i]) r2 rfl (show 0 + 3 ≤ 3 by decide) rfl fun w3 r3 hk3 hz3 => ?_
    have r3' : Row w3 w1.heap.size 66 (lbV s.L[i]) := r3
    have nown : ¬ OwnW m s.L w1.heap.size := fun e => by have := h1.wd.lt (b := w1.heap.size) e; omega
    have zb := h1.bel.size
    have h3 : LSt W w3 m (tkS s q) := (h1.kp' hk2).kp hk3 (fun b e => by
      have e : b = w1.heap.size := e
      exact ⟨by omega, by rw [e]; exact nown⟩)
    try simp only [e_fd, e_nck, e_pkt, e_pkf, e_gdtt, e_gdtf, e_gdft, e_gdff, e_ift, e_iff, e_not, e_ln, e_lnT, e_cp, e_cvi, e_ex20, e_ex21, e_ex30, e_ex31, e_ex32, e_add, e_sub, e_mul, e_quo, e_rem, e_and, e_or, e_xor, e_shl, e_shr, e_eql, e_neq, e_lss, e_leq, e_gtr, e_geq, e_beq, e_bne, e_peq1, e_peq2, e_pne1, e_pne2, e_zeq1, e_zeq2, e_zne1, e_zne2, e_feq1, e_fne1, e_feq2, e_fne2, e_seq, e_sne, e_ta1, e_ta2, Nat.zero_add, Nat.add_zero, Bool.not_true, Bool.not_false]
    refine ld1_r r3' rfl ?_
    try simp only [e_fd, e_nck, e_pkt, e_pkf, e_gdtt, e_gdtf, e_gdft, e_gdff, e_ift, e_iff, e_not, e_ln, e_lnT, e_cp, e_cvi, e_ex20, e_ex21, e_ex30, e_ex31, e_ex32, e_add, e_sub, e_mul, e_quo, e_rem, e_and, e_or, e_xor, e_shl, e_shr, e_eql, e_neq, e_lss, e_leq, e_gtr, e_geq, e_beq, e_bne, e_peq1, e_peq2, e_pne1, e_pne2, e_zeq1, e_zeq2, e_zne1, e_zne2, e_feq1, e_fne1, e_feq2, e_fne2, e_seq, e_sne, e_ta1, e_ta2, Nat.zero_add, Nat.add_zero, Bool.not_true, Bool.not_false]
    have hx := List.getElem_mem hlt
    obtain ⟨k, hk, l, x1, x2, x3, x4, x5⟩ := hI.live _ hx
    have hxl : s.L[i].ws.length = s.T.ps[k].bw := by rw [x5, cutW_len]
    refine law7_words h3 hx (by rw [hxl]; exact x5) (hg _ hx) r3' nown (by omega) fun w4 q4 h4 => ?_
    exact ⟨n - 1, by omega, i + 1, q4, by omega, rfl, h4⟩
  · have hlt' : ¬ (i : Int) < ((s.L.length : Nat) : Int) := by omega
    simp only [hlt', decide_false, e_fd, e_nck, e_pkt, e_pkf, e_gdtt, e_gdtf, e_gdft, e_gdff, e_ift, e_iff, e_not, e_ln, e_lnT, e_cp, e_cvi, e_ex20, e_ex21, e_ex30, e_ex31, e_ex32, e_add, e_sub, e_mul, e_quo, e_rem, e_and, e_or, e_xor, e_shl, e_shr, e_eql, e_neq, e_lss, e_leq, e_gtr, e_geq, e_beq, e_bne, e_peq1, e_peq2, e_pne1, e_pne2, e_zeq1, e_zeq2, e_zne1, e_zne2, e_feq1, e_fne1, e_feq2, e_fne2, e_seq, e_sne, e_ta1, e_ta2, Nat.zero_add, Nat.add_zero, Bool.not_true, Bool.not_false]
    unfold s7_p2
    try simp only [e_fd, e_nck, e_pkt, e_pkf, e_gdtt, e_gdtf, e_gdft, e_gdff, e_ift, e_iff, e_not, e_ln, e_lnT, e_cp, e_cvi, e_ex20, e_ex21, e_ex30, e_ex31, e_ex32, e_add, e_sub, e_mul, e_quo, e_rem, e_and, e_or, e_xor, e_shl, e_shr, e_eql, e_neq, e_lss, e_leq, e_gtr, e_geq, e_beq, e_bne, e_peq1, e_peq2, e_pne1, e_pne2, e_zeq1, e_zeq2, e_zne1, e_zne2, e_feq1, e_fne1, e_feq2, e_fne2, e_seq, e_sne, e_ta1, e_ta2, Nat.zero_add, Nat.add_zero, Bool.not_true, Bool.not_false]
    rw [wrap64_id (by omega) (by omega)]
    exact next w1 q h1

theorem law7_loop (hs : Scr W v ops) (hl : ops.length ≤ 65536) (h : LSt W w m s) (hI : PInv s.A.ws s.T s.L F) (hT : s.T.ps = []) (hL : s.L = []) (hK : ∀ w', Below W.heap.size W w' → K (.bool true) w') : s7_p15 K (P m.wdb 0) v (I ops.length) (I 0) w := by
  unfold s7_p15
  refine ⟨fun n l w' => ∃ (j : Nat) (m' : Wm) (s' : Ws) (F' : Nat → List Nat), j ≤ ops.length ∧ n + j = ops.length ∧ l = [P m'.wdb 0, v, I ops.length, I j] ∧ LSt W w' m' s' ∧ LiveIn s'.L ∧ s'.L.length ≤ j ∧ PInv s'.A.ws s'.T s'.L F' ∧ FailLe j s',
    ops.length, ⟨0, m, s, F, Nat.zero_le _, rfl, rfl, h, fun x hx => (by rw [hL] at hx; cases hx), by rw [hL]; exact Nat.le_refl _, hI, fun sh hsh => (by rw [hT] at hsh; cases hsh)⟩, ?_⟩
  rintro n l w1 ⟨j, m1, s1, F1, hj, hn, rfl, h1, hg1, hL1, hI1, hf1⟩
  rw [s7_p15_Fe]
  unfold s7_p14
  try simp only [e_fd, e_nck, e_pkt, e_pkf, e_gdtt, e_gdtf, e_gdft, e_gdff, e_ift, e_iff, e_not, e_ln, e_lnT, e_cp, e_cvi, e_ex20, e_ex21, e_ex30, e_ex31, e_ex32, e_add, e_sub, e_mul, e_quo, e_rem, e_and, e_or, e_xor, e_shl, e_shr, e_eql, e_neq, e_lss, e_leq, e_gtr, e_geq, e_beq, e_bne, e_peq1, e_peq2, e_pne1, e_pne2, e_zeq1, e_zeq2, e_zne1, e_zne2, e_feq1, e_fne1, e_feq2, e_fne2, e_seq, e_sne, e_ta1, e_ta2, Nat.zero_add, Nat.add_zero, Bool.not_true, Bool.not_false]
  by_cases hlt : j < ops.length
  · have hlt' : (j : Int) < ((ops.length : Nat) : Int) := by omega
    simp only [hlt', decide_true, e_fd, e_nck, e_pkt, e_pkf, e_gdtt, e_gdtf, e_gdft, e_gdff, e_ift, e_iff, e_not, e_ln, e_lnT, e_cp, e_cvi, e_ex20, e_ex21, e_ex30, e_ex31, e_ex32, e_add, e_sub, e_mul, e_quo, e_rem, e_and, e_or, e_xor, e_shl, e_shr, e_eql, e_neq, e_lss, e_leq, e_gtr, e_geq, e_beq, e_bne, e_peq1, e_peq2, e_pne1, e_pne2, e_zeq1, e_zeq2, e_zne1, e_zne2, e_feq1, e_fne1, e_feq2, e_fne2, e_seq, e_sne, e_ta1, e_ta2, Nat.zero_add, Nat.add_zero, Bool.not_true, Bool.not_false]
    unfold s7_p13
    refine hs.take h1.bel hlt fun w2 t5 r5 hk2 hz2 => ?_
    have h2 := h1.kp' hk2
    try simp only [e_fd, e_nck, e_pkt, e_pkf, e_gdtt, e_gdtf, e_gdft, e_gdff, e_ift, e_iff, e_not, e_ln, e_lnT, e_cp, e_cvi, e_ex20, e_ex21, e_ex30, e_ex31, e_ex32, e_add, e_sub, e_mul, e_quo, e_rem, e_and, e_or, e_xor, e_shl, e_shr, e_eql, e_neq, e_lss, e_leq, e_gtr, e_geq, e_beq, e_bne, e_peq1, e_peq2, e_pne1, e_pne2, e_zeq1, e_zeq2, e_zne1, e_zne2, e_feq1, e_fne1, e_feq2, e_fne2, e_seq, e_sne, e_ta1, e_ta2, Nat.zero_add, Nat.add_zero, Bool.not_true, Bool.not_false]
    refine ld1_r r5 rfl ?_
    unfold u8
    try simp only [e_fd, e_nck, e_pkt, e_pkf, e_gdtt, e_gdtf, e_gdft, e_gdff, e_ift, e_iff, e_not, e_ln, e_lnT, e_cp, e_cvi, e_ex20, e_ex21, e_ex30, e_ex31, e_ex32, e_add, e_sub, e_mul, e_quo, e_rem, e_and, e_or, e_xor, e_shl, e_shr, e_eql, e_neq, e_lss, e_leq, e_gtr, e_geq, e_beq, e_bne, e_peq1, e_peq2, e_pne1, e_pne2, e_zeq1, e_zeq2, e_zne1, e_zne2, e_feq1, e_fne1, e_feq2, e_fne2, e_seq, e_sne, e_ta1, e_ta2, Nat.zero_add, Nat.add_zero, Bool.not_true, Bool.not_false]
    have wf := hs.1 _ (List.getElem_mem hlt)
    generalize ops[j] = o at r5 wf ⊢
    by_cases k8 : o.kind = 8
    · have e : (((o.kind : Nat) : Int) == 8) = true := by rw [k8]; rfl
      simp only [e, e_fd, e_nck, e_pkt, e_pkf, e_gdtt, e_gdtf, e_gdft, e_gdff, e_ift, e_iff, e_not, e_ln, e_lnT, e_cp, e_cvi, e_ex20, e_ex21, e_ex30, e_ex31, e_ex32, e_add, e_sub, e_mul, e_quo, e_rem, e_and, e_or, e_xor, e_shl, e_shr, e_eql, e_neq, e_lss, e_leq, e_gtr, e_geq, e_beq, e_bne, e_peq1, e_peq2, e_pne1, e_pne2, e_zeq1, e_zeq2, e_zne1, e_zne2, e_feq1, e_fne1, e_feq2, e_fne2, e_seq, e_sne, e_ta1, e_ta2, Nat.zero_add, Nat.add_zero, Bool.not_true, Bool.not_false]
      unfold s7_p2
      try simp only [e_fd, e_nck, e_pkt, e_pkf, e_gdtt, e_gdtf, e_gdft, e_gdff, e_ift, e_iff, e_not, e_ln, e_lnT, e_cp, e_cvi, e_ex20, e_ex21, e_ex30, e_ex31, e_ex32, e_add, e_sub, e_mul, e_quo, e_rem, e_and, e_or, e_xor, e_shl, e_shr, e_eql, e_neq, e_lss, e_leq, e_gtr, e_geq, e_beq, e_bne, e_peq1, e_peq2, e_pne1, e_pne2, e_zeq1, e_zeq2, e_zne1, e_zne2, e_feq1, e_fne1, e_feq2, e_fne2, e_seq, e_sne, e_ta1, e_ta2, Nat.zero_add, Nat.add_zero, Bool.not_true, Bool.not_false]
      rw [wrap64_id (by omega) (by omega)]
      exact ⟨n - 1, by omega, j + 1, m1, s1, F1, by omega, by omega, by simp, h2, hg1, by omega, hI1, hf1.mono (by omega)⟩
    · have e : (((o.kind : Nat) : Int) == 8) = false := by rw [beq_eq_false_iff_ne]; omega
      simp only [e, e_fd, e_nck, e_pkt, e_pkf, e_gdtt, e_gdtf, e_gdft, e_gdff, e_ift, e_iff, e_not, e_ln, e_lnT, e_cp, e_cvi, e_ex20, e_ex21, e_ex30, e_ex31, e_ex32, e_add, e_sub, e_mul, e_quo, e_rem, e_and, e_or, e_xor, e_shl, e_shr, e_eql, e_neq, e_lss, e_leq, e_gtr, e_geq, e_beq, e_bne, e_peq1, e_peq2, e_pne1, e_pne2, e_zeq1, e_zeq2, e_zne1, e_zne2, e_feq1, e_fne1, e_feq2, e_fne2, e_seq, e_sne, e_ta1, e_ta2, Nat.zero_add, Nat.add_zero, Bool.not_true, Bool.not_false]
      refine ldn_r r5 (show 0 + 4 ≤ 4 by decide) ?_
      refine resolve_ok h2.wd.row h2.wd.live (by omega) wf.kind fun w3 hk3 => ?_
      have h3 := h2.kp' hk3
      have hco := resF_ok hg1 h3.rng wf
      have hck : (resF s1.L o).kind ≠ 8 := by rw [resF_kind]; exact k8
      generalize resF s1.L o = c at hco hck ⊢
      refine real_ok h3.wd hco (by omega) fun w5 m5 kk nb sob sv hkk wd5 st5 sl5 no5 => ?_
      have h5 := h3.st wd5 st5
      obtain ⟨F5, hI5⟩ := real_inv (kk := kk) (nb := nb) h3.wd.ok hco hck hI1 (hf1.mono (by omega))
      have hf5 := real_fail (kk := kk) (nb := nb) h3.wd.ok hco hck hI1 (by omega) hf1
      have hg5 := real_live (c := c) kk nb h3.wd.ok hg1
      have hL5 := real_len (s := s1) (c := c) kk nb
      rw [← st5.wdb]
      try simp only [e_fd, e_nck, e_pkt, e_pkf, e_gdtt, e_gdtf, e_gdft, e_gdff, e_ift, e_iff, e_not, e_ln, e_lnT, e_cp, e_cvi, e_ex20, e_ex21, e_ex30, e_ex31, e_ex32, e_add, e_sub, e_mul, e_quo, e_rem, e_and, e_or, e_xor, e_shl, e_shr, e_eql, e_neq, e_lss, e_leq, e_gtr, e_geq, e_beq, e_bne, e_peq1, e_peq2, e_pne1, e_pne2, e_zeq1, e_zeq2, e_zne1, e_zne2, e_feq1, e_fne1, e_feq2, e_fne2, e_seq, e_sne, e_ta1, e_ta2, Nat.zero_add, Nat.add_zero, Bool.not_true, Bool.not_false]
      refine ld1_r h5.wd.row rfl ?_
      refine h5.wd.live.sl.ln ?_
      refine law7_blocks h5 hI5 hg5 (by omega) (by omega) fun w6 q h6 => ?_
      exact ⟨n - 1, by omega, j + 1, m5, _, F5, by omega, by omega, rfl, h6, hg5, by show (realF kk nb s1 c).L.length ≤ _; omega, hI5, hf5⟩
  · have hlt' : ¬ (j : Int) < ((ops.length : Nat) : Int) := by omega
    simp only [hlt', decide_false, e_fd, e_nck, e_pkt, e_pkf, e_gdtt, e_gdtf, e_gdft, e_gdff, e_ift, e_iff, e_not, e_ln, e_lnT, e_cp, e_cvi, e_ex20, e_ex21, e_ex30, e_ex31, e_ex32, e_add, e_sub, e_mul, e_quo, e_rem, e_and, e_or, e_xor, e_shl, e_shr, e_eql, e_neq, e_lss, e_leq, e_gtr, e_geq, e_beq, e_bne, e_peq1, e_peq2, e_pne1, e_pne2, e_zeq1, e_zeq2, e_zne1, e_zne2, e_feq1, e_fne1, e_feq2, e_fne2, e_seq, e_sne, e_ta1, e_ta2, Nat.zero_add, Nat.add_zero, Bool.not_true, Bool.not_false]
    unfold s7_p1
    exact hK w1 h1.bel

theorem law7 (hs : Scr W v ops) (g0 : W.cell? ⟨0, 0, none⟩ = some (U32 24)) (g1 : W.cell? ⟨0, 1, none⟩ = some (U32 4040)) : cl Tryd.prog 7 #[v] (fun r w' => r = .bool true ∧ Below W.heap.size W w') W := by
  apply c7
  unfold s7_p16
  refine small_ok hs ?_
  by_cases hl : ops.length ≤ 65536
  · simp only [hl, decide_true, e_fd, e_nck, e_pkt, e_pkf, e_gdtt, e_gdtf, e_gdft, e_gdff, e_ift, e_iff, e_not, e_ln, e_lnT, e_cp, e_cvi, e_ex20, e_ex21, e_ex30, e_ex31, e_ex32, e_add, e_sub, e_mul, e_quo, e_rem, e_and, e_or, e_xor, e_shl, e_shr, e_eql, e_neq, e_lss, e_leq, e_gtr, e_geq, e_beq, e_bne, e_peq1, e_peq2, e_pne1, e_pne2, e_zeq1, e_zeq2, e_zne1, e_zne2, e_feq1, e_fne1, e_feq2, e_fne2, e_seq, e_sne, e_ta1, e_ta2, Nat.zero_add, Nat.add_zero, Bool.not_true, Bool.not_false]
    refine newWorld_ok g0 g1 (Below.refl _ _) fun w1 m A mb h1 ho1 hmd rmb hz1 hk1 => ?_
    refine hs.ln ?_
    exact law7_loop hs hl h1 (PInv.open A 24 4040) rfl rfl fun w' hb => ⟨rfl, hb⟩
  · simp only [hl, decide_false, e_fd, e_nck, e_pkt, e_pkf, e_gdtt, e_gdtf, e_gdft, e_gdff, e_ift, e_iff, e_not, e_ln, e_lnT, e_cp, e_cvi, e_ex20, e_ex21, e_ex30, e_ex31, e_ex32, e_add, e_sub, e_mul, e_quo, e_rem, e_and, e_or, e_xor, e_shl, e_shr, e_eql, e_neq, e_lss, e_leq, e_gtr, e_geq, e_beq, e_bne, e_peq1, e_peq2, e_pne1, e_pne2, e_zeq1, e_zeq2, e_zne1, e_zne2, e_feq1, e_fne1, e_feq2, e_fne2, e_seq, e_sne, e_ta1, e_ta2, Nat.zero_add, Nat.add_zero, Bool.not_true, Bool.not_false]
    exact ⟨trivial, Below.refl _ _⟩
theorem law7_walk (hs : Scr W v ops) (g0 : W.cell? ⟨0, 0, none⟩ = some (U32 24)) (g1 : W.cell? ⟨0, 1, none⟩ = some (U32 4040)) : Calls Tryd.prog 7 #[v] W fun e w' => e = .returned (.bool true) ∧ Below W.heap.size W w' :=
  Calls.mono (law7 hs g0 g1) fun e w' ⟨r, he, hr, hb⟩ => ⟨by rw [he, hr], hb⟩
end
end Go.Proofs.Qxb6500893aDoor
