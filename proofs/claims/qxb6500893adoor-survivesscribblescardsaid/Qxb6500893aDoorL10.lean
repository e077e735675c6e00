import Derived.Test.Qxb6500893aDoorA26
namespace Go.Proofs.Qxb6500893aDoor
open Go.Sh Go.RowKit
set_option linter.unusedVariables false
set_option linter.unusedSimpArgs false

theorem allocF_len {A : Ar} {sh : Shp} : (allocF A sh).2.2.sd.length ≤ A.sd.length + 4 := by
  unfold allocF
  split
  · exact Nat.le_add_right _ _
  split
  · dsimp only; split <;> simp [put, ld]
  split
  · exact Nat.le_add_right _ _
  split
  · exact Nat.le_add_right _ _
  · dsimp only; split <;> simp [put, ld]
theorem freeF_len {A : Ar} {sh : Shp} {a : Nat} : (freeF A sh a).2.sd.length ≤ A.sd.length + 4 := by
  unfold freeF
  split
  · exact Nat.le_add_right _ _
  split
  · exact Nat.le_add_right _ _
  split
  · exact Nat.le_add_right _ _
  split
  · exact Nat.le_add_right _ _
  · simp [put, ld]
theorem mid_sdlen {s : Ws} {c : Call} {kk : Nat} (ok : s.T.Ok) : (midF kk (s00 s) c).s.A.sd.length < 1000000 := by
  have z : (s00 s).A.sd.length = 0 := rfl
  unfold midF
  split
  · unfold mOpen; split <;> exact Nat.lt_of_le_of_lt (Nat.le_of_eq z) (by decide)
  split
  · unfold mCreate; split
    · rename_i h0
      have hok := (crC_ok ok h0).1
      obtain ⟨hm, hn4, hm1⟩ := mapW_small hok
      show (fmtF (A0 s.A) (crSh s.T c.a.toNat c.b.toNat)).sd.length < 1000000
      unfold fmtF
      rw [puts_sd]
      have : (fmtL (crSh s.T c.a.toNat c.b.toNat)).length ≤ 10000 := by
        unfold fmtL fmt1 fmt2 fmt3
        simp only [List.length_append, List.length_map, List.length_range, List.length_cons, List.length_nil]
        omega
      rw [List.length_append, List.length_map]
      have z2 : (A0 s.A).sd.length = 0 := rfl
      omega
    · exact Nat.lt_of_le_of_lt (Nat.le_of_eq z) (by decide)
  split
  · unfold mAlloc; split
    · rename_i sh _
      have := allocF_len (A := (s00 s).A) (sh := sh)
      show (allocF (s00 s).A sh).2.2.sd.length < 1000000
      omega
    · exact Nat.lt_of_le_of_lt (Nat.le_of_eq z) (by decide)
  split
  · unfold mFree; split
    · rename_i sh _
      have := freeF_len (A := (s00 s).A) (sh := sh) (a := c.at_)
      show (freeF (s00 s).A sh c.at_).2.sd.length < 1000000
      omega
    · exact Nat.lt_of_le_of_lt (Nat.le_of_eq z) (by decide)
  split
  · unfold mRel; split
    · rename_i sh _
      have := freeF_len (A := tk (s00 s).A kk) (sh := sh) (a := c.at_)
      have z2 : (tk (s00 s).A kk).sd.length = 0 := rfl
      show (freeF (tk (s00 s).A kk) sh c.at_).2.sd.length < 1000000
      omega
    · exact Nat.lt_of_le_of_lt (Nat.le_of_eq z) (by decide)
  split
  · unfold mOwn; split <;> exact Nat.lt_of_le_of_lt (Nat.le_of_eq z) (by decide)
  split
  · unfold mStats; split
    · rename_i sh _
      show (stF (s00 s).A sh).2.2.sd.length < 1000000
      rw [stF_sd]; omega
    · exact Nat.lt_of_le_of_lt (Nat.le_of_eq z) (by decide)
  split
  · unfold mPoke; split
    · split
      · show ((s00 s).A.sd ++ [_]).length < 1000000
        rw [List.length_append]; simp only [List.length_singleton]; omega
      · exact Nat.lt_of_le_of_lt (Nat.le_of_eq z) (by decide)
    · exact Nat.lt_of_le_of_lt (Nat.le_of_eq z) (by decide)
  split
  · unfold mScr; split
    · show ((s00 s).A.sd ++ [_]).length < 1000000
      rw [List.length_append]; simp only [List.length_singleton]; omega
    · exact Nat.lt_of_le_of_lt (Nat.le_of_eq z) (by decide)
  · exact Nat.lt_of_le_of_lt (Nat.le_of_eq z) (by decide)
section
variable {W w w' : World} {v : Value} {ops : List Op} {K : Value → World → Prop} {B1 : List Value → World → Prop} {s : Ws} {m : Wm} {c : Call} {t6 t7 : Nat} {t17 t18 : Value} {j : Nat}
/-- the audit at the end of a round -/
theorem law10_end (h : LSt W w m s) (hsd : s.A.sd = []) (hj : j < 1000000) (next : ∀ w' m' q, LSt W w' m' (tkS s q) → m'.wdb = m.wdb → B1 [P m.wdb 0, t17, t18, I (j + 1 : Nat)] w') :
    s10_p3 K B1 (P m.wdb 0) t17 t18 (I j) w := by
  unfold s10_p3
  try simp only [e_fd, e_nck, e_pkt, e_pkf, e_gdtt, e_gdtf, e_gdft, e_gdff, e_ift, e_iff, e_not, e_ln, e_lnT, e_cp, e_cvi, e_ex20, e_ex21, e_ex30, e_ex31, e_ex32, e_add, e_sub, e_mul, e_quo, e_rem, e_and, e_or, e_xor, e_shl, e_shr, e_eql, e_neq, e_lss, e_leq, e_gtr, e_geq, e_beq, e_bne, e_peq1, e_peq2, e_pne1, e_pne2, e_zeq1, e_zeq2, e_zne1, e_zne2, e_feq1, e_fne1, e_feq2, e_fne2, e_seq, e_sne, e_ta1, e_ta2, Nat.zero_add, Nat.add_zero, Bool.not_true, Bool.not_false]
  refine ld1_r h.wd.row rfl ?_
  refine h.audit (C := False) (F := fun _ => []) (fun q => q.elim) fun w1 k code h1 kp1 _ => ?_
  try simp only [e_fd, e_nck, e_pkt, e_pkf, e_gdtt, e_gdtf, e_gdft, e_gdff, e_ift, e_iff, e_not, e_ln, e_lnT, e_cp, e_cvi, e_ex20, e_ex21, e_ex30, e_ex31, e_ex32, e_add, e_sub, e_mul, e_quo, e_rem, e_and, e_or, e_xor, e_shl, e_shr, e_eql, e_neq, e_lss, e_leq, e_gtr, e_geq, e_beq, e_bne, e_peq1, e_peq2, e_pne1, e_pne2, e_zeq1, e_zeq2, e_zne1, e_zne2, e_feq1, e_fne1, e_feq2, e_fne2, e_seq, e_sne, e_ta1, e_ta2, Nat.zero_add, Nat.add_zero, Bool.not_true, Bool.not_false]
  refine ld1_r h1.wd.row rfl ?_
  refine h1.take fun w2 m2 h2 e2 _ sl2 hk2 => ?_
  have hsd1 : (tkS s k).A.sd = [] := hsd
  rw [hsd1] at sl2
  refine sl2.ln ?_
  simp only [List.length_nil, show (((0 : Nat) : Int) != 0) = false from rfl, e_fd, e_nck, e_pkt, e_pkf, e_gdtt, e_gdtf, e_gdft, e_gdff, e_ift, e_iff, e_not, e_ln, e_lnT, e_cp, e_cvi, e_ex20, e_ex21, e_ex30, e_ex31, e_ex32, e_add, e_sub, e_mul, e_quo, e_rem, e_and, e_or, e_xor, e_shl, e_shr, e_eql, e_neq, e_lss, e_leq, e_gtr, e_geq, e_beq, e_bne, e_peq1, e_peq2, e_pne1, e_pne2, e_zeq1, e_zeq2, e_zne1, e_zne2, e_feq1, e_fne1, e_feq2, e_fne2, e_seq, e_sne, e_ta1, e_ta2, Nat.zero_add, Nat.add_zero, Bool.not_true, Bool.not_false]
  unfold s10_p2
  try simp only [e_fd, e_nck, e_pkt, e_pkf, e_gdtt, e_gdtf, e_gdft, e_gdff, e_ift, e_iff, e_not, e_ln, e_lnT, e_cp, e_cvi, e_ex20, e_ex21, e_ex30, e_ex31, e_ex32, e_add, e_sub, e_mul, e_quo, e_rem, e_and, e_or, e_xor, e_shl, e_shr, e_eql, e_neq, e_lss, e_leq, e_gtr, e_geq, e_beq, e_bne, e_peq1, e_peq2, e_pne1, e_pne2, e_zeq1, e_zeq2, e_zne1, e_zne2, e_feq1, e_fne1, e_feq2, e_fne2, e_seq, e_sne, e_ta1, e_ta2, Nat.zero_add, Nat.add_zero, Bool.not_true, Bool.not_false]
  rw [wrap64_id (by omega) (by omega)]
  refine next w2 m2 k ?_ e2
  have e : ({ tkS s k with A := A0 (tkS s k).A } : Ws) = tkS s k := by
    unfold tkS tk A0
    simp only [hsd]
  rw [← e]; exact h2
/-- a block handed out starts a block -/
theorem law10_at {i l : Nat} {out : List Value} (h : LSt W w m s) (hsd : s.A.sd = []) (hj : j < 1000000) (hi : i < s.T.ps.length) (hl : l < s.T.ps[i].n) (hp : c.pool = (i : Int)) (r6 : Row w t6 33 (cac c)) (r7 : Row w t7 41 out) (ho : out[2]? = some (U32 (s.T.ps[i].bk l)))
    (next : ∀ w' m' q, LSt W w' m' (tkS s q) → m'.wdb = m.wdb → B1 [P m.wdb 0, t17, t18, I (j + 1 : Nat)] w') :
    s10_p7 K B1 (P m.wdb 0) (P t6 0) (P t7 0) t17 t18 (I j) w := by
  have hok := (h.wd.ok.sh _ (List.getElem_mem hi)).1
  have hbw := hok.bw1
  have hb := bk_in hok (t := 0) hl (by omega)
  have hlim := hok.lim
  have hbw2 := hok.bw2
  have hn2 := hok.n2
  have go : ∀ {w1 : World} {t10 : Nat}, LSt W w1 m s → Row w1 t6 33 (cac c) → Row w1 t7 41 out → Row w1 t10 68 [U32 s.T.ps[i].fst, U32 s.T.ps[i].bw, U32 s.T.ps[i].n] → s10_p6 K B1 (P m.wdb 0) (P t6 0) (P t7 0) (P t10 0) t17 t18 (I j) w1 := by
    intro w1 t10 h1 r61 r71 r10
    unfold s10_p6
    try simp only [e_fd, e_nck, e_pkt, e_pkf, e_gdtt, e_gdtf, e_gdft, e_gdff, e_ift, e_iff, e_not, e_ln, e_lnT, e_cp, e_cvi, e_ex20, e_ex21, e_ex30, e_ex31, e_ex32, e_add, e_sub, e_mul, e_quo, e_rem, e_and, e_or, e_xor, e_shl, e_shr, e_eql, e_neq, e_lss, e_leq, e_gtr, e_geq, e_beq, e_bne, e_peq1, e_peq2, e_pne1, e_pne2, e_zeq1, e_zeq2, e_zne1, e_zne2, e_feq1, e_fne1, e_feq2, e_fne2, e_seq, e_sne, e_ta1, e_ta2, Nat.zero_add, Nat.add_zero, Bool.not_true, Bool.not_false]
    refine ld1_r r61 rfl ?_
    try simp only [e_fd, e_nck, e_pkt, e_pkf, e_gdtt, e_gdtf, e_gdft, e_gdff, e_ift, e_iff, e_not, e_ln, e_lnT, e_cp, e_cvi, e_ex20, e_ex21, e_ex30, e_ex31, e_ex32, e_add, e_sub, e_mul, e_quo, e_rem, e_and, e_or, e_xor, e_shl, e_shr, e_eql, e_neq, e_lss, e_leq, e_gtr, e_geq, e_beq, e_bne, e_peq1, e_peq2, e_pne1, e_pne2, e_zeq1, e_zeq2, e_zne1, e_zne2, e_feq1, e_fne1, e_feq2, e_fne2, e_seq, e_sne, e_ta1, e_ta2, Nat.zero_add, Nat.add_zero, Bool.not_true, Bool.not_false]
    refine ld1_r r71 ho ?_
    refine offset_ok h1 (by omega) fun w2 hk2 => ?_
    rw [hp, pl_some hi]
    have eo : ((s.T.ps[i].bk l : Nat) : Int) - ((s.T.ps[i].fst : Nat) : Int) = ((l * s.T.ps[i].bw : Nat) : Int) := by unfold Shp.bk; omega
    simp only [eo]
    unfold s10_p5 s10_p5_d
    have h2 := (h1.kp' hk2).kp' (w' := drw w2) kp_drw
    have r10' := (hk2.row' r10).drw
    generalize drw w2 = w3 at h2 r10' ⊢
    have hlt : ¬ ((l * s.T.ps[i].bw : Nat) : Int) < 0 := by omega
    simp only [hlt, decide_false, e_fd, e_nck, e_pkt, e_pkf, e_gdtt, e_gdtf, e_gdft, e_gdff, e_ift, e_iff, e_not, e_ln, e_lnT, e_cp, e_cvi, e_ex20, e_ex21, e_ex30, e_ex31, e_ex32, e_add, e_sub, e_mul, e_quo, e_rem, e_and, e_or, e_xor, e_shl, e_shr, e_eql, e_neq, e_lss, e_leq, e_gtr, e_geq, e_beq, e_bne, e_peq1, e_peq2, e_pne1, e_pne2, e_zeq1, e_zeq2, e_zne1, e_zne2, e_feq1, e_fne1, e_feq2, e_fne2, e_seq, e_sne, e_ta1, e_ta2, Nat.zero_add, Nat.add_zero, Bool.not_true, Bool.not_false]
    refine ld1_r r10' rfl ?_
    try simp only [e_fd, e_nck, e_pkt, e_pkf, e_gdtt, e_gdtf, e_gdft, e_gdff, e_ift, e_iff, e_not, e_ln, e_lnT, e_cp, e_cvi, e_ex20, e_ex21, e_ex30, e_ex31, e_ex32, e_add, e_sub, e_mul, e_quo, e_rem, e_and, e_or, e_xor, e_shl, e_shr, e_eql, e_neq, e_lss, e_leq, e_gtr, e_geq, e_beq, e_bne, e_peq1, e_peq2, e_pne1, e_pne2, e_zeq1, e_zeq2, e_zne1, e_zne2, e_feq1, e_fne1, e_feq2, e_fne2, e_seq, e_sne, e_ta1, e_ta2, Nat.zero_add, Nat.add_zero, Bool.not_true, Bool.not_false]
    rw [wrap64_id (n := ((s.T.ps[i].bw : Nat) : Int)) (by omega) (by omega)]
    refine ⟨by omega, ?_⟩
    have em : ((l * s.T.ps[i].bw : Nat) : Int).tmod ((s.T.ps[i].bw : Nat) : Int) = 0 := by
      rw [Int.tmod_eq_emod_of_nonneg (by omega)]
      have : (l * s.T.ps[i].bw) % s.T.ps[i].bw = 0 := Nat.mul_mod_left _ _
      omega
    rw [em]
    simp only [show ((0 : Int) != 0) = false from rfl, e_fd, e_nck, e_pkt, e_pkf, e_gdtt, e_gdtf, e_gdft, e_gdff, e_ift, e_iff, e_not, e_ln, e_lnT, e_cp, e_cvi, e_ex20, e_ex21, e_ex30, e_ex31, e_ex32, e_add, e_sub, e_mul, e_quo, e_rem, e_and, e_or, e_xor, e_shl, e_shr, e_eql, e_neq, e_lss, e_leq, e_gtr, e_geq, e_beq, e_bne, e_peq1, e_peq2, e_pne1, e_pne2, e_zeq1, e_zeq2, e_zne1, e_zne2, e_feq1, e_fne1, e_feq2, e_fne2, e_seq, e_sne, e_ta1, e_ta2, Nat.zero_add, Nat.add_zero, Bool.not_true, Bool.not_false]
    refine ld1_r r10' rfl ?_
    try simp only [e_fd, e_nck, e_pkt, e_pkf, e_gdtt, e_gdtf, e_gdft, e_gdff, e_ift, e_iff, e_not, e_ln, e_lnT, e_cp, e_cvi, e_ex20, e_ex21, e_ex30, e_ex31, e_ex32, e_add, e_sub, e_mul, e_quo, e_rem, e_and, e_or, e_xor, e_shl, e_shr, e_eql, e_neq, e_lss, e_leq, e_gtr, e_geq, e_beq, e_bne, e_peq1, e_peq2, e_pne1, e_pne2, e_zeq1, e_zeq2, e_zne1, e_zne2, e_feq1, e_fne1, e_feq2, e_fne2, e_seq, e_sne, e_ta1, e_ta2, Nat.zero_add, Nat.add_zero, Bool.not_true, Bool.not_false]
    rw [wrap64_id (n := ((s.T.ps[i].bw : Nat) : Int)) (by omega) (by omega)]
    refine ⟨by omega, ?_⟩
    have ed : ((l * s.T.ps[i].bw : Nat) : Int).tdiv ((s.T.ps[i].bw : Nat) : Int) = ((l : Nat) : Int) := by
      rw [Int.tdiv_eq_ediv_of_nonneg (by omega)]
      have : (l * s.T.ps[i].bw) / s.T.ps[i].bw = l := Nat.mul_div_cancel _ (by omega)
      omega
    rw [ed, wrap64_id (n := ((l : Nat) : Int)) (by omega) (by omega)]
    try simp only [e_fd, e_nck, e_pkt, e_pkf, e_gdtt, e_gdtf, e_gdft, e_gdff, e_ift, e_iff, e_not, e_ln, e_lnT, e_cp, e_cvi, e_ex20, e_ex21, e_ex30, e_ex31, e_ex32, e_add, e_sub, e_mul, e_quo, e_rem, e_and, e_or, e_xor, e_shl, e_shr, e_eql, e_neq, e_lss, e_leq, e_gtr, e_geq, e_beq, e_bne, e_peq1, e_peq2, e_pne1, e_pne2, e_zeq1, e_zeq2, e_zne1, e_zne2, e_feq1, e_fne1, e_feq2, e_fne2, e_seq, e_sne, e_ta1, e_ta2, Nat.zero_add, Nat.add_zero, Bool.not_true, Bool.not_false]
    refine ld1_r r10' rfl ?_
    try simp only [e_fd, e_nck, e_pkt, e_pkf, e_gdtt, e_gdtf, e_gdft, e_gdff, e_ift, e_iff, e_not, e_ln, e_lnT, e_cp, e_cvi, e_ex20, e_ex21, e_ex30, e_ex31, e_ex32, e_add, e_sub, e_mul, e_quo, e_rem, e_and, e_or, e_xor, e_shl, e_shr, e_eql, e_neq, e_lss, e_leq, e_gtr, e_geq, e_beq, e_bne, e_peq1, e_peq2, e_pne1, e_pne2, e_zeq1, e_zeq2, e_zne1, e_zne2, e_feq1, e_fne1, e_feq2, e_fne2, e_seq, e_sne, e_ta1, e_ta2, Nat.zero_add, Nat.add_zero, Bool.not_true, Bool.not_false]
    rw [wrap64_id (n := ((s.T.ps[i].n : Nat) : Int)) (by omega) (by omega)]
    have hge : ¬ ((s.T.ps[i].n : Nat) : Int) ≤ ((l : Nat) : Int) := by omega
    simp only [hge, decide_false, e_fd, e_nck, e_pkt, e_pkf, e_gdtt, e_gdtf, e_gdft, e_gdff, e_ift, e_iff, e_not, e_ln, e_lnT, e_cp, e_cvi, e_ex20, e_ex21, e_ex30, e_ex31, e_ex32, e_add, e_sub, e_mul, e_quo, e_rem, e_and, e_or, e_xor, e_shl, e_shr, e_eql, e_neq, e_lss, e_leq, e_gtr, e_geq, e_beq, e_bne, e_peq1, e_peq2, e_pne1, e_pne2, e_zeq1, e_zeq2, e_zne1, e_zne2, e_feq1, e_fne1, e_feq2, e_fne2, e_seq, e_sne, e_ta1, e_ta2, Nat.zero_add, Nat.add_zero, Bool.not_true, Bool.not_false]
    unfold s10_p4
    try simp only [e_fd, e_nck, e_pkt, e_pkf, e_gdtt, e_gdtf, e_gdft, e_gdff, e_ift, e_iff, e_not, e_ln, e_lnT, e_cp, e_cvi, e_ex20, e_ex21, e_ex30, e_ex31, e_ex32, e_add, e_sub, e_mul, e_quo, e_rem, e_and, e_or, e_xor, e_shl, e_shr, e_eql, e_neq, e_lss, e_leq, e_gtr, e_geq, e_beq, e_bne, e_peq1, e_peq2, e_pne1, e_pne2, e_zeq1, e_zeq2, e_zne1, e_zne2, e_feq1, e_fne1, e_feq2, e_fne2, e_seq, e_sne, e_ta1, e_ta2, Nat.zero_add, Nat.add_zero, Bool.not_true, Bool.not_false]
    exact law10_end h2 hsd hj next
  unfold s10_p7
  have h0 := h.kp' (w' := drw w) kp_drw
  have r60 := r6.drw
  have r70 := r7.drw
  generalize drw w = w at h0 r60 r70 ⊢
  refine ⟨fun w' => Row w' m.wdb 50 [P m.ab 0, P m.tb 0, m.md, m.lv] ∧ Row w' t6 33 (cac c), ⟨h0.wd.row, r60⟩, ?_⟩
  unfold s10_p7_d
  try simp only [e_fd, e_nck, e_pkt, e_pkf, e_gdtt, e_gdtf, e_gdft, e_gdff, e_ift, e_iff, e_not, e_ln, e_lnT, e_cp, e_cvi, e_ex20, e_ex21, e_ex30, e_ex31, e_ex32, e_add, e_sub, e_mul, e_quo, e_rem, e_and, e_or, e_xor, e_shl, e_shr, e_eql, e_neq, e_lss, e_leq, e_gtr, e_geq, e_beq, e_bne, e_peq1, e_peq2, e_pne1, e_pne2, e_zeq1, e_zeq2, e_zne1, e_zne2, e_feq1, e_fne1, e_feq2, e_fne2, e_seq, e_sne, e_ta1, e_ta2, Nat.zero_add, Nat.add_zero, Bool.not_true, Bool.not_false]
  refine ⟨P m.tb 0, fun w' hJ => ld1_r hJ.1 rfl ⟨rfl, rfl⟩, ?_⟩
  refine ⟨I c.pool, fun w' hJ => ld1_r hJ.2 rfl ⟨rfl, rfl⟩, ?_⟩
  rw [hp]
  refine ⟨?_, ?_⟩
  · refine info_ok h0.wd.tbl (fun hn => absurd ⟨by omega, by omega⟩ hn) (fun i' hi' hid w1 hk1 => ?_)
    obtain rfl : i' = i := by omega
    simp only [and_self, e_fd, e_nck, e_pkt, e_pkf, e_gdtt, e_gdtf, e_gdft, e_gdff, e_ift, e_iff, e_not, e_ln, e_lnT, e_cp, e_cvi, e_ex20, e_ex21, e_ex30, e_ex31, e_ex32, e_add, e_sub, e_mul, e_quo, e_rem, e_and, e_or, e_xor, e_shl, e_shr, e_eql, e_neq, e_lss, e_leq, e_gtr, e_geq, e_beq, e_bne, e_peq1, e_peq2, e_pne1, e_pne2, e_zeq1, e_zeq2, e_zne1, e_zne2, e_feq1, e_fne1, e_feq2, e_fne2, e_seq, e_sne, e_ta1, e_ta2, Nat.zero_add, Nat.add_zero, Bool.not_true, Bool.not_false]
    refine nw_r fun w2 r2 hk2 hz2 => ?_
    have k02 := hk1.trans hk2
    refine ⟨⟨k02.row' h0.wd.row, k02.row' r60⟩, ?_⟩
    refine stn_r (cs := [U32 s.T.ps[i'].fst, U32 s.T.ps[i'].bw, U32 s.T.ps[i'].n]) r2 rfl (show 0 + 3 ≤ 3 by decide) rfl fun w3 r3 hk3 hz3 => ?_
    have k03 : Kp (fun _ => False) w w3 := k02.then hk3 (fun b hb (q : b = _) => by have := hk1.size; omega)
    exact go (h0.kp' k03) (k03.row' r60) (k03.row' r70) r3
  · refine nw_r fun w1 r1 hk1 hz1 => ?_
    refine ⟨⟨hk1.row' h0.wd.row, hk1.row' r60⟩, ?_⟩
    refine info_ok (h0.kp' hk1).wd.tbl (fun hn => absurd ⟨by omega, by omega⟩ hn) (fun i' hi' hid w2 hk2 => ?_)
    obtain rfl : i' = i := by omega
    simp only [and_self, e_fd, e_nck, e_pkt, e_pkf, e_gdtt, e_gdtf, e_gdft, e_gdff, e_ift, e_iff, e_not, e_ln, e_lnT, e_cp, e_cvi, e_ex20, e_ex21, e_ex30, e_ex31, e_ex32, e_add, e_sub, e_mul, e_quo, e_rem, e_and, e_or, e_xor, e_shl, e_shr, e_eql, e_neq, e_lss, e_leq, e_gtr, e_geq, e_beq, e_bne, e_peq1, e_peq2, e_pne1, e_pne2, e_zeq1, e_zeq2, e_zne1, e_zne2, e_feq1, e_fne1, e_feq2, e_fne2, e_seq, e_sne, e_ta1, e_ta2, Nat.zero_add, Nat.add_zero, Bool.not_true, Bool.not_false]
    refine stn_r (cs := [U32 s.T.ps[i'].fst, U32 s.T.ps[i'].bw, U32 s.T.ps[i'].n]) (hk2.row' r1) rfl (show 0 + 3 ≤ 3 by decide) rfl fun w3 r3 hk3 hz3 => ?_
    have k03 : Kp (fun _ => False) w w3 := (hk1.trans hk2).then hk3 (fun b hb (q : b = _) => by omega)
    exact go (h0.kp' k03) (k03.row' r60) (k03.row' r70) r3
/-- each address stored to -/
theorem law10_stored {sob : Option Nat} {sv : Value} {sd : List Nat} {out : List Value} (h : LSt W w m s) (hj : j < 1000000) (r6 : Row w t6 33 (cac c)) (r7 : Row w t7 41 out) (sl : Sl u1 1 w 31 sob sv sd) (hsl : sd.length < 1000000)
    (hin : ∀ a ∈ sd, s.T.base ≤ a ∧ a < s.T.lim)
    (next : ∀ w', LSt W w' m s → Row w' t6 33 (cac c) → Row w' t7 41 out → s10_p9 K B1 (P m.wdb 0) (P t6 0) (P t7 0) t17 t18 (I j) w') :
    s10_p11 K B1 (P m.wdb 0) (P t6 0) (P t7 0) t17 t18 (I j) sv (I sd.length) (I 0) w := by
  have hlim := h.wd.ok.top
  unfold s10_p11
  refine ⟨fun n l w' => ∃ (i : Nat), n + i = sd.length ∧ l = [P m.wdb 0, P t6 0, P t7 0, t17, t18, I j, sv, I sd.length, I i] ∧ Kp (fun _ => False) w w',
    sd.length, ⟨0, rfl, rfl, Kp.refl _ _⟩, ?_⟩
  rintro n l w1 ⟨i, hn, rfl, hk1⟩
  rw [s10_p11_Fe]
  unfold s10_p10
  try simp only [e_fd, e_nck, e_pkt, e_pkf, e_gdtt, e_gdtf, e_gdft, e_gdff, e_ift, e_iff, e_not, e_ln, e_lnT, e_cp, e_cvi, e_ex20, e_ex21, e_ex30, e_ex31, e_ex32, e_add, e_sub, e_mul, e_quo, e_rem, e_and, e_or, e_xor, e_shl, e_shr, e_eql, e_neq, e_lss, e_leq, e_gtr, e_geq, e_beq, e_bne, e_peq1, e_peq2, e_pne1, e_pne2, e_zeq1, e_zeq2, e_zne1, e_zne2, e_feq1, e_fne1, e_feq2, e_fne2, e_seq, e_sne, e_ta1, e_ta2, Nat.zero_add, Nat.add_zero, Bool.not_true, Bool.not_false]
  have h1 := h.kp' hk1
  by_cases hlt : i < sd.length
  · have hlt' : (i : Int) < ((sd.length : Nat) : Int) := by omega
    simp only [hlt', decide_true, e_fd, e_nck, e_pkt, e_pkf, e_gdtt, e_gdtf, e_gdft, e_gdff, e_ift, e_iff, e_not, e_ln, e_lnT, e_cp, e_cvi, e_ex20, e_ex21, e_ex30, e_ex31, e_ex32, e_add, e_sub, e_mul, e_quo, e_rem, e_and, e_or, e_xor, e_shl, e_shr, e_eql, e_neq, e_lss, e_leq, e_gtr, e_geq, e_beq, e_bne, e_peq1, e_peq2, e_pne1, e_pne2, e_zeq1, e_zeq2, e_zne1, e_zne2, e_feq1, e_fne1, e_feq2, e_fne2, e_seq, e_sne, e_ta1, e_ta2, Nat.zero_add, Nat.add_zero, Bool.not_true, Bool.not_false]
    refine (sl.kp' hk1).ix u1_len hlt fun b l hb hr hg hll _ => ?_
    refine ld1_r hr (v := U32 sd[i]) (by have := hg 0 (by decide); rw [Nat.add_zero] at this; rw [this]; rfl) ?_
    have hin' := hin _ (List.getElem_mem hlt)
    refine inRegion_ok h1 (by omega) fun w2 hk2 => ?_
    have ed : decide (s.T.base ≤ sd[i] ∧ sd[i] < s.T.lim) = true := decide_eq_true hin'
    rw [ed]
    try simp only [e_fd, e_nck, e_pkt, e_pkf, e_gdtt, e_gdtf, e_gdft, e_gdff, e_ift, e_iff, e_not, e_ln, e_lnT, e_cp, e_cvi, e_ex20, e_ex21, e_ex30, e_ex31, e_ex32, e_add, e_sub, e_mul, e_quo, e_rem, e_and, e_or, e_xor, e_shl, e_shr, e_eql, e_neq, e_lss, e_leq, e_gtr, e_geq, e_beq, e_bne, e_peq1, e_peq2, e_pne1, e_pne2, e_zeq1, e_zeq2, e_zne1, e_zne2, e_feq1, e_fne1, e_feq2, e_fne2, e_seq, e_sne, e_ta1, e_ta2, Nat.zero_add, Nat.add_zero, Bool.not_true, Bool.not_false]
    rw [wrap64_id (by omega) (by omega)]
    exact ⟨n - 1, by omega, i + 1, by omega, by simp, hk1.trans hk2⟩
  · have hlt' : ¬ (i : Int) < ((sd.length : Nat) : Int) := by omega
    simp only [hlt', decide_false, e_fd, e_nck, e_pkt, e_pkf, e_gdtt, e_gdtf, e_gdft, e_gdff, e_ift, e_iff, e_not, e_ln, e_lnT, e_cp, e_cvi, e_ex20, e_ex21, e_ex30, e_ex31, e_ex32, e_add, e_sub, e_mul, e_quo, e_rem, e_and, e_or, e_xor, e_shl, e_shr, e_eql, e_neq, e_lss, e_leq, e_gtr, e_geq, e_beq, e_bne, e_peq1, e_peq2, e_pne1, e_pne2, e_zeq1, e_zeq2, e_zne1, e_zne2, e_feq1, e_fne1, e_feq2, e_fne2, e_seq, e_sne, e_ta1, e_ta2, Nat.zero_add, Nat.add_zero, Bool.not_true, Bool.not_false]
    exact next w1 h1 (hk1.row' r6) (hk1.row' r7)

theorem law10_loop (hs : Scr W v ops) (hl : ops.length ≤ 65536) (h : LSt W w m s) (hL : s.L = []) (hK : ∀ w', Below W.heap.size W w' → K (.bool true) w') : s10_p14 K (P m.wdb 0) v (I ops.length) (I 0) w := by
  unfold s10_p14
  refine ⟨fun n l w' => ∃ (j : Nat) (m' : Wm) (s' : Ws), j ≤ ops.length ∧ n + j = ops.length ∧ l = [P m'.wdb 0, v, I ops.length, I j] ∧ LSt W w' m' s' ∧ LiveIn s'.L ∧ s'.L.length ≤ j,
    ops.length, ⟨0, m, s, Nat.zero_le _, rfl, rfl, h, fun x hx => (by rw [hL] at hx; cases hx), by rw [hL]; exact Nat.le_refl _⟩, ?_⟩
  rintro n l w1 ⟨j, m1, s1, hj, hn, rfl, h1, hg1, hL1⟩
  rw [s10_p14_Fe]
  unfold s10_p13
  try simp only [e_fd, e_nck, e_pkt, e_pkf, e_gdtt, e_gdtf, e_gdft, e_gdff, e_ift, e_iff, e_not, e_ln, e_lnT, e_cp, e_cvi, e_ex20, e_ex21, e_ex30, e_ex31, e_ex32, e_add, e_sub, e_mul, e_quo, e_rem, e_and, e_or, e_xor, e_shl, e_shr, e_eql, e_neq, e_lss, e_leq, e_gtr, e_geq, e_beq, e_bne, e_peq1, e_peq2, e_pne1, e_pne2, e_zeq1, e_zeq2, e_zne1, e_zne2, e_feq1, e_fne1, e_feq2, e_fne2, e_seq, e_sne, e_ta1, e_ta2, Nat.zero_add, Nat.add_zero, Bool.not_true, Bool.not_false]
  by_cases hlt : j < ops.length
  · have hlt' : (j : Int) < ((ops.length : Nat) : Int) := by omega
    simp only [hlt', decide_true, e_fd, e_nck, e_pkt, e_pkf, e_gdtt, e_gdtf, e_gdft, e_gdff, e_ift, e_iff, e_not, e_ln, e_lnT, e_cp, e_cvi, e_ex20, e_ex21, e_ex30, e_ex31, e_ex32, e_add, e_sub, e_mul, e_quo, e_rem, e_and, e_or, e_xor, e_shl, e_shr, e_eql, e_neq, e_lss, e_leq, e_gtr, e_geq, e_beq, e_bne, e_peq1, e_peq2, e_pne1, e_pne2, e_zeq1, e_zeq2, e_zne1, e_zne2, e_feq1, e_fne1, e_feq2, e_fne2, e_seq, e_sne, e_ta1, e_ta2, Nat.zero_add, Nat.add_zero, Bool.not_true, Bool.not_false]
    unfold s10_p12
    refine hs.take h1.bel hlt fun w2 t5 r5 hk2 hz2 => ?_
    have h2 := h1.kp' hk2
    have wf := hs.1 _ (List.getElem_mem hlt)
    generalize ops[j] = o at r5 wf ⊢
    refine round_head h2 r5 wf (by omega) fun w3 t6 h3 r6 _ hk3 hz3 => ?_
    have hco := resF_ok hg1 h3.rng wf
    generalize resF s1.L o = c at r6 hco ⊢
    refine round_real h3 r6 hco (by omega) fun w4 m4 kk nb t7 sob sv hkk h4 st4 r64 r7 sl4 no4 hz4 => ?_
    have ew := st4.wdb
    have hg4 := real_live (c := c) kk nb h3.wd.ok hg1
    have hL4 := real_len (s := s1) (c := c) kk nb
    have nx : ∀ {w' m' q}, LSt W w' m' (tkS (realF kk nb s1 c) q) → m'.wdb = m4.wdb → ∃ m_1, m_1 < n ∧ ∃ (j' : Nat) (m' : Wm) (s' : Ws), j' ≤ ops.length ∧ m_1 + j' = ops.length ∧ [P m1.wdb 0, v, I ops.length, I (j + 1 : Nat)] = [P m'.wdb 0, v, I ops.length, I j'] ∧ LSt W w' m' s' ∧ LiveIn s'.L ∧ s'.L.length ≤ j' := by
      intro w' m' q h' e'
      exact ⟨n - 1, by omega, j + 1, m', _, by omega, by omega, by rw [e', ew], h', hg4, by show (realF kk nb s1 c).L.length ≤ _; omega⟩
    try simp only [e_fd, e_nck, e_pkt, e_pkf, e_gdtt, e_gdtf, e_gdft, e_gdff, e_ift, e_iff, e_not, e_ln, e_lnT, e_cp, e_cvi, e_ex20, e_ex21, e_ex30, e_ex31, e_ex32, e_add, e_sub, e_mul, e_quo, e_rem, e_and, e_or, e_xor, e_shl, e_shr, e_eql, e_neq, e_lss, e_leq, e_gtr, e_geq, e_beq, e_bne, e_peq1, e_peq2, e_pne1, e_pne2, e_zeq1, e_zeq2, e_zne1, e_zne2, e_feq1, e_fne1, e_feq2, e_fne2, e_seq, e_sne, e_ta1, e_ta2, Nat.zero_add, Nat.add_zero, Bool.not_true, Bool.not_false]
    refine ld1_r r64 rfl ?_
    unfold u8
    try simp only [e_fd, e_nck, e_pkt, e_pkf, e_gdtt, e_gdtf, e_gdft, e_gdff, e_ift, e_iff, e_not, e_ln, e_lnT, e_cp, e_cvi, e_ex20, e_ex21, e_ex30, e_ex31, e_ex32, e_add, e_sub, e_mul, e_quo, e_rem, e_and, e_or, e_xor, e_shl, e_shr, e_eql, e_neq, e_lss, e_leq, e_gtr, e_geq, e_beq, e_bne, e_peq1, e_peq2, e_pne1, e_pne2, e_zeq1, e_zeq2, e_zne1, e_zne2, e_feq1, e_fne1, e_feq2, e_fne2, e_seq, e_sne, e_ta1, e_ta2, Nat.zero_add, Nat.add_zero, Bool.not_true, Bool.not_false]
    have hck := hco.k8
    have skip : s10_p2 K (fun l' w' => ∃ m_1, m_1 < n ∧ ∃ (j' : Nat) (m' : Wm) (s' : Ws), j' ≤ ops.length ∧ m_1 + j' = ops.length ∧ l' = [P m'.wdb 0, v, I ops.length, I j'] ∧ LSt W w' m' s' ∧ LiveIn s'.L ∧ s'.L.length ≤ j') (P m1.wdb 0) v (I ops.length) (I j) w4 := by
      unfold s10_p2
      try simp only [e_fd, e_nck, e_pkt, e_pkf, e_gdtt, e_gdtf, e_gdft, e_gdff, e_ift, e_iff, e_not, e_ln, e_lnT, e_cp, e_cvi, e_ex20, e_ex21, e_ex30, e_ex31, e_ex32, e_add, e_sub, e_mul, e_quo, e_rem, e_and, e_or, e_xor, e_shl, e_shr, e_eql, e_neq, e_lss, e_leq, e_gtr, e_geq, e_beq, e_bne, e_peq1, e_peq2, e_pne1, e_pne2, e_zeq1, e_zeq2, e_zne1, e_zne2, e_feq1, e_fne1, e_feq2, e_fne2, e_seq, e_sne, e_ta1, e_ta2, Nat.zero_add, Nat.add_zero, Bool.not_true, Bool.not_false]
      rw [wrap64_id (by omega) (by omega)]
      have h4' : LSt W w4 m4 (tkS (realF kk nb s1 c) 0) := by
        have : tkS (realF kk nb s1 c) 0 = realF kk nb s1 c := by unfold tkS tk; rw [tick_0 h4.wd.arn.st]
        rw [this]; exact h4
      exact nx h4' rfl
    by_cases k8 : c.kind = 8
    · have e : (((c.kind : Nat) : Int) == 8) = true := by rw [k8]; rfl
      simp only [e, e_fd, e_nck, e_pkt, e_pkf, e_gdtt, e_gdtf, e_gdft, e_gdff, e_ift, e_iff, e_not, e_ln, e_lnT, e_cp, e_cvi, e_ex20, e_ex21, e_ex30, e_ex31, e_ex32, e_add, e_sub, e_mul, e_quo, e_rem, e_and, e_or, e_xor, e_shl, e_shr, e_eql, e_neq, e_lss, e_leq, e_gtr, e_geq, e_beq, e_bne, e_peq1, e_peq2, e_pne1, e_pne2, e_zeq1, e_zeq2, e_zne1, e_zne2, e_feq1, e_fne1, e_feq2, e_fne2, e_seq, e_sne, e_ta1, e_ta2, Nat.zero_add, Nat.add_zero, Bool.not_true, Bool.not_false]
      exact skip
    have e8 : (((c.kind : Nat) : Int) == 8) = false := by rw [beq_eq_false_iff_ne]; omega
    simp only [e8, e_fd, e_nck, e_pkt, e_pkf, e_gdtt, e_gdtf, e_gdft, e_gdff, e_ift, e_iff, e_not, e_ln, e_lnT, e_cp, e_cvi, e_ex20, e_ex21, e_ex30, e_ex31, e_ex32, e_add, e_sub, e_mul, e_quo, e_rem, e_and, e_or, e_xor, e_shl, e_shr, e_eql, e_neq, e_lss, e_leq, e_gtr, e_geq, e_beq, e_bne, e_peq1, e_peq2, e_pne1, e_pne2, e_zeq1, e_zeq2, e_zne1, e_zne2, e_feq1, e_fne1, e_feq2, e_fne2, e_seq, e_sne, e_ta1, e_ta2, Nat.zero_add, Nat.add_zero, Bool.not_true, Bool.not_false]
    refine ld1_r r64 rfl ?_
    unfold u8
    try simp only [e_fd, e_nck, e_pkt, e_pkf, e_gdtt, e_gdtf, e_gdft, e_gdff, e_ift, e_iff, e_not, e_ln, e_lnT, e_cp, e_cvi, e_ex20, e_ex21, e_ex30, e_ex31, e_ex32, e_add, e_sub, e_mul, e_quo, e_rem, e_and, e_or, e_xor, e_shl, e_shr, e_eql, e_neq, e_lss, e_leq, e_gtr, e_geq, e_beq, e_bne, e_peq1, e_peq2, e_pne1, e_pne2, e_zeq1, e_zeq2, e_zne1, e_zne2, e_feq1, e_fne1, e_feq2, e_fne2, e_seq, e_sne, e_ta1, e_ta2, Nat.zero_add, Nat.add_zero, Bool.not_true, Bool.not_false]
    by_cases k7 : c.kind = 7
    · have e : (((c.kind : Nat) : Int) == 7) = true := by rw [k7]; rfl
      simp only [e, e_fd, e_nck, e_pkt, e_pkf, e_gdtt, e_gdtf, e_gdft, e_gdff, e_ift, e_iff, e_not, e_ln, e_lnT, e_cp, e_cvi, e_ex20, e_ex21, e_ex30, e_ex31, e_ex32, e_add, e_sub, e_mul, e_quo, e_rem, e_and, e_or, e_xor, e_shl, e_shr, e_eql, e_neq, e_lss, e_leq, e_gtr, e_geq, e_beq, e_bne, e_peq1, e_peq2, e_pne1, e_pne2, e_zeq1, e_zeq2, e_zne1, e_zne2, e_feq1, e_fne1, e_feq2, e_fne2, e_seq, e_sne, e_ta1, e_ta2, Nat.zero_add, Nat.add_zero, Bool.not_true, Bool.not_false]
      exact skip
    have e7 : (((c.kind : Nat) : Int) == 7) = false := by rw [beq_eq_false_iff_ne]; omega
    simp only [e7, e_fd, e_nck, e_pkt, e_pkf, e_gdtt, e_gdtf, e_gdft, e_gdff, e_ift, e_iff, e_not, e_ln, e_lnT, e_cp, e_cvi, e_ex20, e_ex21, e_ex30, e_ex31, e_ex32, e_add, e_sub, e_mul, e_quo, e_rem, e_and, e_or, e_xor, e_shl, e_shr, e_eql, e_neq, e_lss, e_leq, e_gtr, e_geq, e_beq, e_bne, e_peq1, e_peq2, e_pne1, e_pne2, e_zeq1, e_zeq2, e_zne1, e_zne2, e_feq1, e_fne1, e_feq2, e_fne2, e_seq, e_sne, e_ta1, e_ta2, Nat.zero_add, Nat.add_zero, Bool.not_true, Bool.not_false]
    refine ld1_r r64 rfl ?_
    try simp only [e_fd, e_nck, e_pkt, e_pkf, e_gdtt, e_gdtf, e_gdft, e_gdff, e_ift, e_iff, e_not, e_ln, e_lnT, e_cp, e_cvi, e_ex20, e_ex21, e_ex30, e_ex31, e_ex32, e_add, e_sub, e_mul, e_quo, e_rem, e_and, e_or, e_xor, e_shl, e_shr, e_eql, e_neq, e_lss, e_leq, e_gtr, e_geq, e_beq, e_bne, e_peq1, e_peq2, e_pne1, e_pne2, e_zeq1, e_zeq2, e_zne1, e_zne2, e_feq1, e_fne1, e_feq2, e_fne2, e_seq, e_sne, e_ta1, e_ta2, Nat.zero_add, Nat.add_zero, Bool.not_true, Bool.not_false]
    refine ld1_r r7 (v := U64 (sub64 (midF kk (s00 s1) c).s.A.st s1.A.st)) rfl ?_
    refine bound_ok hck (by unfold sub64; omega) (mid_st (s := s00 s1) hkk h3.wd.arn.st) ?_
    try simp only [e_fd, e_nck, e_pkt, e_pkf, e_gdtt, e_gdtf, e_gdft, e_gdff, e_ift, e_iff, e_not, e_ln, e_lnT, e_cp, e_cvi, e_ex20, e_ex21, e_ex30, e_ex31, e_ex32, e_add, e_sub, e_mul, e_quo, e_rem, e_and, e_or, e_xor, e_shl, e_shr, e_eql, e_neq, e_lss, e_leq, e_gtr, e_geq, e_beq, e_bne, e_peq1, e_peq2, e_pne1, e_pne2, e_zeq1, e_zeq2, e_zne1, e_zne2, e_feq1, e_fne1, e_feq2, e_fne2, e_seq, e_sne, e_ta1, e_ta2, Nat.zero_add, Nat.add_zero, Bool.not_true, Bool.not_false]
    refine ld1_r r7 (v := sv) rfl ?_
    refine sl4.ln ?_
    have hsl : (midF kk (s00 s1) c).s.A.sd.length < 1000000 := mid_sdlen h3.wd.ok
    rw [← ew]
    refine law10_stored h4 (by omega) r64 r7 sl4 hsl (stored_in h3.wd.ok k7 k8) fun w5 h5 r65 r75 => ?_
    unfold s10_p9
    try simp only [e_fd, e_nck, e_pkt, e_pkf, e_gdtt, e_gdtf, e_gdft, e_gdff, e_ift, e_iff, e_not, e_ln, e_lnT, e_cp, e_cvi, e_ex20, e_ex21, e_ex30, e_ex31, e_ex32, e_add, e_sub, e_mul, e_quo, e_rem, e_and, e_or, e_xor, e_shl, e_shr, e_eql, e_neq, e_lss, e_leq, e_gtr, e_geq, e_beq, e_bne, e_peq1, e_peq2, e_pne1, e_pne2, e_zeq1, e_zeq2, e_zne1, e_zne2, e_feq1, e_fne1, e_feq2, e_fne2, e_seq, e_sne, e_ta1, e_ta2, Nat.zero_add, Nat.add_zero, Bool.not_true, Bool.not_false]
    refine ld1_r r65 rfl ?_
    unfold u8
    try simp only [e_fd, e_nck, e_pkt, e_pkf, e_gdtt, e_gdtf, e_gdft, e_gdff, e_ift, e_iff, e_not, e_ln, e_lnT, e_cp, e_cvi, e_ex20, e_ex21, e_ex30, e_ex31, e_ex32, e_add, e_sub, e_mul, e_quo, e_rem, e_and, e_or, e_xor, e_shl, e_shr, e_eql, e_neq, e_lss, e_leq, e_gtr, e_geq, e_beq, e_bne, e_peq1, e_peq2, e_pne1, e_pne2, e_zeq1, e_zeq2, e_zne1, e_zne2, e_feq1, e_fne1, e_feq2, e_fne2, e_seq, e_sne, e_ta1, e_ta2, Nat.zero_add, Nat.add_zero, Bool.not_true, Bool.not_false]
    by_cases k2 : c.kind = 2
    · have e : (((c.kind : Nat) : Int) == 2) = true := by rw [k2]; rfl
      simp only [e, e_fd, e_nck, e_pkt, e_pkf, e_gdtt, e_gdtf, e_gdft, e_gdff, e_ift, e_iff, e_not, e_ln, e_lnT, e_cp, e_cvi, e_ex20, e_ex21, e_ex30, e_ex31, e_ex32, e_add, e_sub, e_mul, e_quo, e_rem, e_and, e_or, e_xor, e_shl, e_shr, e_eql, e_neq, e_lss, e_leq, e_gtr, e_geq, e_beq, e_bne, e_peq1, e_peq2, e_pne1, e_pne2, e_zeq1, e_zeq2, e_zne1, e_zne2, e_feq1, e_fne1, e_feq2, e_fne2, e_seq, e_sne, e_ta1, e_ta2, Nat.zero_add, Nat.add_zero, Bool.not_true, Bool.not_false]
      refine ld1_r r75 (v := I (midF kk (s00 s1) c).code) rfl ?_
      try simp only [e_fd, e_nck, e_pkt, e_pkf, e_gdtt, e_gdtf, e_gdft, e_gdff, e_ift, e_iff, e_not, e_ln, e_lnT, e_cp, e_cvi, e_ex20, e_ex21, e_ex30, e_ex31, e_ex32, e_add, e_sub, e_mul, e_quo, e_rem, e_and, e_or, e_xor, e_shl, e_shr, e_eql, e_neq, e_lss, e_leq, e_gtr, e_geq, e_beq, e_bne, e_peq1, e_peq2, e_pne1, e_pne2, e_zeq1, e_zeq2, e_zne1, e_zne2, e_feq1, e_fne1, e_feq2, e_fne2, e_seq, e_sne, e_ta1, e_ta2, Nat.zero_add, Nat.add_zero, Bool.not_true, Bool.not_false]
      unfold s10_p8
      by_cases h0 : (midF kk (s00 s1) c).code = 0
      · have e0 : ((midF kk (s00 s1) c).code == 0) = true := by rw [h0]; rfl
        simp only [e0, e_fd, e_nck, e_pkt, e_pkf, e_gdtt, e_gdtf, e_gdft, e_gdff, e_ift, e_iff, e_not, e_ln, e_lnT, e_cp, e_cvi, e_ex20, e_ex21, e_ex30, e_ex31, e_ex32, e_add, e_sub, e_mul, e_quo, e_rem, e_and, e_or, e_xor, e_shl, e_shr, e_eql, e_neq, e_lss, e_leq, e_gtr, e_geq, e_beq, e_bne, e_peq1, e_peq2, e_pne1, e_pne2, e_zeq1, e_zeq2, e_zne1, e_zne2, e_feq1, e_fne1, e_feq2, e_fne2, e_seq, e_sne, e_ta1, e_ta2, Nat.zero_add, Nat.add_zero, Bool.not_true, Bool.not_false]
        obtain ⟨i, hi, l, e1, e2, e3⟩ := mid_alloc (s := s00 s1) h3.wd.ok k2 h0
        have eT : (realF kk nb s1 c).T = s1.T := by rw [real_T2, (mid_T kk (s00 s1) c k2).1]; rfl
        have hi' : i < (realF kk nb s1 c).T.ps.length := by rw [eT]; exact hi
        have eS : (realF kk nb s1 c).T.ps[i] = s1.T.ps[i]'hi := by
          have e : (realF kk nb s1 c).T.ps[i]? = s1.T.ps[i]? := by rw [eT]
          have hi2 : i < s1.T.ps.length := hi
          rw [List.getElem?_eq_getElem hi', List.getElem?_eq_getElem hi2] at e
          exact Option.some.inj e
        refine law10_at h5 real_sd (by omega) hi' (by rw [eS]; exact e2) e1 r65 r75 ?_ fun w6 m6 q h6 e6 => ?_
        · rw [eS]
          show some (U32 (midF kk (s00 s1) c).at_) = _
          rw [e3]; rfl
        · rw [ew]; exact nx h6 e6
      · have e0 : ((midF kk (s00 s1) c).code == 0) = false := by rw [beq_eq_false_iff_ne]; exact h0
        simp only [e0, e_fd, e_nck, e_pkt, e_pkf, e_gdtt, e_gdtf, e_gdft, e_gdff, e_ift, e_iff, e_not, e_ln, e_lnT, e_cp, e_cvi, e_ex20, e_ex21, e_ex30, e_ex31, e_ex32, e_add, e_sub, e_mul, e_quo, e_rem, e_and, e_or, e_xor, e_shl, e_shr, e_eql, e_neq, e_lss, e_leq, e_gtr, e_geq, e_beq, e_bne, e_peq1, e_peq2, e_pne1, e_pne2, e_zeq1, e_zeq2, e_zne1, e_zne2, e_feq1, e_fne1, e_feq2, e_fne2, e_seq, e_sne, e_ta1, e_ta2, Nat.zero_add, Nat.add_zero, Bool.not_true, Bool.not_false]
        exact law10_end h5 real_sd (by omega) fun w6 m6 q h6 e6 => by rw [ew]; exact nx h6 e6
    · have e : (((c.kind : Nat) : Int) == 2) = false := by rw [beq_eq_false_iff_ne]; omega
      simp only [e, e_fd, e_nck, e_pkt, e_pkf, e_gdtt, e_gdtf, e_gdft, e_gdff, e_ift, e_iff, e_not, e_ln, e_lnT, e_cp, e_cvi, e_ex20, e_ex21, e_ex30, e_ex31, e_ex32, e_add, e_sub, e_mul, e_quo, e_rem, e_and, e_or, e_xor, e_shl, e_shr, e_eql, e_neq, e_lss, e_leq, e_gtr, e_geq, e_beq, e_bne, e_peq1, e_peq2, e_pne1, e_pne2, e_zeq1, e_zeq2, e_zne1, e_zne2, e_feq1, e_fne1, e_feq2, e_fne2, e_seq, e_sne, e_ta1, e_ta2, Nat.zero_add, Nat.add_zero, Bool.not_true, Bool.not_false]
      unfold s10_p8
      try simp only [e_fd, e_nck, e_pkt, e_pkf, e_gdtt, e_gdtf, e_gdft, e_gdff, e_ift, e_iff, e_not, e_ln, e_lnT, e_cp, e_cvi, e_ex20, e_ex21, e_ex30, e_ex31, e_ex32, e_add, e_sub, e_mul, e_quo, e_rem, e_and, e_or, e_xor, e_shl, e_shr, e_eql, e_neq, e_lss, e_leq, e_gtr, e_geq, e_beq, e_bne, e_peq1, e_peq2, e_pne1, e_pne2, e_zeq1, e_zeq2, e_zne1, e_zne2, e_feq1, e_fne1, e_feq2, e_fne2, e_seq, e_sne, e_ta1, e_ta2, Nat.zero_add, Nat.add_zero, Bool.not_true, Bool.not_false]
      exact law10_end h5 real_sd (by omega) fun w6 m6 q h6 e6 => by rw [ew]; exact nx h6 e6
  · have hlt' : ¬ (j : Int) < ((ops.length : Nat) : Int) := by omega
    simp only [hlt', decide_false, e_fd, e_nck, e_pkt, e_pkf, e_gdtt, e_gdtf, e_gdft, e_gdff, e_ift, e_iff, e_not, e_ln, e_lnT, e_cp, e_cvi, e_ex20, e_ex21, e_ex30, e_ex31, e_ex32, e_add, e_sub, e_mul, e_quo, e_rem, e_and, e_or, e_xor, e_shl, e_shr, e_eql, e_neq, e_lss, e_leq, e_gtr, e_geq, e_beq, e_bne, e_peq1, e_peq2, e_pne1, e_pne2, e_zeq1, e_zeq2, e_zne1, e_zne2, e_feq1, e_fne1, e_feq2, e_fne2, e_seq, e_sne, e_ta1, e_ta2, Nat.zero_add, Nat.add_zero, Bool.not_true, Bool.not_false]
    unfold s10_p1
    exact hK w1 h1.bel

theorem law10 (hs : Scr W v ops) (g0 : W.cell? ⟨0, 0, none⟩ = some (U32 24)) (g1 : W.cell? ⟨0, 1, none⟩ = some (U32 4040)) : cl Tryd.prog 10 #[v] (fun r w' => r = .bool true ∧ Below W.heap.size W w') W := by
  apply c10
  unfold s10_p15
  refine small_ok hs ?_
  by_cases hl : ops.length ≤ 65536
  · simp only [hl, decide_true, e_fd, e_nck, e_pkt, e_pkf, e_gdtt, e_gdtf, e_gdft, e_gdff, e_ift, e_iff, e_not, e_ln, e_lnT, e_cp, e_cvi, e_ex20, e_ex21, e_ex30, e_ex31, e_ex32, e_add, e_sub, e_mul, e_quo, e_rem, e_and, e_or, e_xor, e_shl, e_shr, e_eql, e_neq, e_lss, e_leq, e_gtr, e_geq, e_beq, e_bne, e_peq1, e_peq2, e_pne1, e_pne2, e_zeq1, e_zeq2, e_zne1, e_zne2, e_feq1, e_fne1, e_feq2, e_fne2, e_seq, e_sne, e_ta1, e_ta2, Nat.zero_add, Nat.add_zero, Bool.not_true, Bool.not_false]
    refine newWorld_ok g0 g1 (Below.refl _ _) fun w1 m A mb h1 ho1 hmd rmb hz1 hk1 => ?_
    refine hs.ln ?_
    exact law10_loop hs hl h1 rfl fun w' hb => ⟨rfl, hb⟩
  · simp only [hl, decide_false, e_fd, e_nck, e_pkt, e_pkf, e_gdtt, e_gdtf, e_gdft, e_gdff, e_ift, e_iff, e_not, e_ln, e_lnT, e_cp, e_cvi, e_ex20, e_ex21, e_ex30, e_ex31, e_ex32, e_add, e_sub, e_mul, e_quo, e_rem, e_and, e_or, e_xor, e_shl, e_shr, e_eql, e_neq, e_lss, e_leq, e_gtr, e_geq, e_beq, e_bne, e_peq1, e_peq2, e_pne1, e_pne2, e_zeq1, e_zeq2, e_zne1, e_zne2, e_feq1, e_fne1, e_feq2, e_fne2, e_seq, e_sne, e_ta1, e_ta2, Nat.zero_add, Nat.add_zero, Bool.not_true, Bool.not_false]
    exact ⟨trivial, Below.refl _ _⟩
theorem law10_walk (hs : Scr W v ops) (g0 : W.cell? ⟨0, 0, none⟩ = some (U32 24)) (g1 : W.cell? ⟨0, 1, none⟩ = some (U32 4040)) : Calls Tryd.prog 10 #[v] W fun e w' => e = .returned (.bool true) ∧ Below W.heap.size W w' :=
  Calls.mono (law10 hs g0 g1) fun e w' ⟨r, he, hr, hb⟩ => ⟨by rw [he, hr], hb⟩
end
end Go.Proofs.Qxb6500893aDoor
