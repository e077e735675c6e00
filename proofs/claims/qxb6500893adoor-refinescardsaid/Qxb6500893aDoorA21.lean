import Derived.Test.Qxb6500893aDoorA20
namespace Go.Proofs.Qxb6500893aDoor
open Go.Sh Go.RowKit
set_option linter.unusedVariables false
set_option linter.unusedSimpArgs false

section
variable {W w w' : World} {v : Value} {ops : List Op} {K : Value → World → Prop} {k : Value → World → Prop} {s s' : Ws} {m m' m0 : Wm} {c : Call} {o : Op}
/-- a step is played; what it answers goes into a new block -/
theorem round_real {t6 : Nat} (h : LSt W w m s) (r6 : Row w t6 33 (cac c)) (hco : CallOk s c) (hL : s.L.length ≤ 900000)
    (hk : ∀ w' m' kk nb t8 sob sv, kk ≤ 4 → LSt W w' m' (realF kk nb s c) → StW w w' m s.L m' (realF kk nb s c).L → Row w' t6 33 (cac c) →
      Row w' t8 41 (outV (midF kk (s00 s) c).code (midF kk (s00 s) c).id (midF kk (s00 s) c).at_ (midF kk (s00 s) c).q (sub64 (midF kk (s00 s) c).s.A.st s.A.st) sv) → Sl u1 1 w' 31 sob sv (midF kk (s00 s) c).s.A.sd →
      (∀ b, sob = some b → w.heap.size ≤ b ∧ ¬ OwnW m' (realF kk nb s c).L b) → w.heap.size ≤ t8 → k (P t8 0) w') :
    ldn 6 (P t6 0) (fun t27 w => cl Tryd.prog 14 #[P m.wdb 0, t27] (fun t28 w => nw 41 #[(.int .i64 0), (.int .i64 0), (.int .u32 0), (.int .u32 0), (.int .u32 0), (.int .u32 0), (.int .u64 0), (.int .u64 0), (.slice none 0 0)] (fun t7 w => stn 9 t7 t28 (fun w => k t7 w) w) w) w) w := by
  refine ldn_r r6 (show 0 + 6 ≤ 6 by decide) ?_
  refine real_ok h.wd hco hL fun w1 m1 kk nb sob sv hkk wd1 st1 sl1 no1 => ?_
  have h1 := h.st wd1 st1
  have r61 := st1.kp.row r6 (h.wd.ntag r6 (by decide))
  refine nw_r fun w2 r2 hk2 hz2 => ?_
  refine stn_r (cs := outV (midF kk (s00 s) c).code (midF kk (s00 s) c).id (midF kk (s00 s) c).at_ (midF kk (s00 s) c).q (sub64 (midF kk (s00 s) c).s.A.st s.A.st) sv) r2 rfl (show 0 + 9 ≤ 9 by decide) (by simp [outV, scal]; exact sl_scal sl1) fun w3 r3 hk3 hz3 => ?_
  have k13 : Kp (fun _ => False) w1 w3 := hk2.then hk3 (fun b hb (q : b = _) => by omega)
  have sz := st1.kp.size
  exact hk w3 m1 kk nb w1.heap.size sob sv hkk (h1.kp' k13) (st1.new0 k13) (k13.row' r61) r3 (sl1.kp' k13) no1 (by omega)

theorem region_ok {tb pb ab : Nat} {T : Tb} (h : Tbl w tb pb ab T) (hK : ∀ w', Kp (fun _ => False) w w' → K (.agg [U32 T.base, U32 T.wd].toArray) w') : cl Tryd.prog 45 #[P tb 0] K w := by
  apply c45
  unfold s45_p1
  refine nw_r fun w1 r1 hk1 hz1 => ?_
  try simp only [e_fd, e_nck, e_pkt, e_pkf, e_gdtt, e_gdtf, e_gdft, e_gdff, e_ift, e_iff, e_not, e_ln, e_lnT, e_cp, e_cvi, e_ex20, e_ex21, e_ex30, e_ex31, e_ex32, e_add, e_sub, e_mul, e_quo, e_rem, e_and, e_or, e_xor, e_shl, e_shr, e_eql, e_neq, e_lss, e_leq, e_gtr, e_geq, e_beq, e_bne, e_peq1, e_peq2, e_pne1, e_pne2, e_zeq1, e_zeq2, e_zne1, e_zne2, e_feq1, e_fne1, e_feq2, e_fne2, e_seq, e_sne, e_ta1, e_ta2, Nat.zero_add, Nat.add_zero, Bool.not_true, Bool.not_false]
  refine ldn_r (hk1.row' h.row) (show 1 + 2 ≤ 6 by decide) ?_
  refine stn_r (cs := [U32 T.base, U32 T.wd]) r1 rfl (show 0 + 2 ≤ 2 by decide) rfl fun w2 r2 hk2 hz2 => ?_
  refine ldn_r r2 (show 0 + 2 ≤ _ by simp) ?_
  exact hK w2 (hk1.then hk2 (fun b hb (q : b = _) => by omega))
theorem inRegion_ok {a : Nat} (h : LSt W w m s) (ha : a < 4294967296) (hK : ∀ w', Kp (fun _ => False) w w' → K (.bool (decide (s.T.base ≤ a ∧ a < s.T.lim))) w') : cl Tryd.prog 21 #[P m.wdb 0, U32 a] K w := by
  have ok := h.wd.ok
  have h1 := ok.lim
  have h2 := ok.top
  apply c21
  unfold s21_p1
  try simp only [e_fd, e_nck, e_pkt, e_pkf, e_gdtt, e_gdtf, e_gdft, e_gdff, e_ift, e_iff, e_not, e_ln, e_lnT, e_cp, e_cvi, e_ex20, e_ex21, e_ex30, e_ex31, e_ex32, e_add, e_sub, e_mul, e_quo, e_rem, e_and, e_or, e_xor, e_shl, e_shr, e_eql, e_neq, e_lss, e_leq, e_gtr, e_geq, e_beq, e_bne, e_peq1, e_peq2, e_pne1, e_pne2, e_zeq1, e_zeq2, e_zne1, e_zne2, e_feq1, e_fne1, e_feq2, e_fne2, e_seq, e_sne, e_ta1, e_ta2, Nat.zero_add, Nat.add_zero, Bool.not_true, Bool.not_false]
  refine ld1_r h.wd.row rfl ?_
  refine region_ok h.wd.tbl fun w1 hk1 => ?_
  refine nw_r fun w2 r2 hk2 hz2 => ?_
  refine stn_r (cs := [U32 s.T.base, U32 s.T.wd]) r2 rfl (show 0 + 2 ≤ 2 by decide) rfl fun w3 r3 hk3 hz3 => ?_
  have r3' : Row w3 w1.heap.size 83 [U32 s.T.base, U32 s.T.wd] := r3
  have k03 : Kp (fun _ => False) w w3 := (hk1.trans hk2).then hk3 (fun b hb (q : b = _) => by have := hk1.size; omega)
  have hK := hK w3 k03
  try simp only [e_fd, e_nck, e_pkt, e_pkf, e_gdtt, e_gdtf, e_gdft, e_gdff, e_ift, e_iff, e_not, e_ln, e_lnT, e_cp, e_cvi, e_ex20, e_ex21, e_ex30, e_ex31, e_ex32, e_add, e_sub, e_mul, e_quo, e_rem, e_and, e_or, e_xor, e_shl, e_shr, e_eql, e_neq, e_lss, e_leq, e_gtr, e_geq, e_beq, e_bne, e_peq1, e_peq2, e_pne1, e_pne2, e_zeq1, e_zeq2, e_zne1, e_zne2, e_feq1, e_fne1, e_feq2, e_fne2, e_seq, e_sne, e_ta1, e_ta2, Nat.zero_add, Nat.add_zero, Bool.not_true, Bool.not_false]
  refine ld1_r r3' rfl ?_
  try simp only [e_fd, e_nck, e_pkt, e_pkf, e_gdtt, e_gdtf, e_gdft, e_gdff, e_ift, e_iff, e_not, e_ln, e_lnT, e_cp, e_cvi, e_ex20, e_ex21, e_ex30, e_ex31, e_ex32, e_add, e_sub, e_mul, e_quo, e_rem, e_and, e_or, e_xor, e_shl, e_shr, e_eql, e_neq, e_lss, e_leq, e_gtr, e_geq, e_beq, e_bne, e_peq1, e_peq2, e_pne1, e_pne2, e_zeq1, e_zeq2, e_zne1, e_zne2, e_feq1, e_fne1, e_feq2, e_fne2, e_seq, e_sne, e_ta1, e_ta2, Nat.zero_add, Nat.add_zero, Bool.not_true, Bool.not_false]
  by_cases hb : s.T.base ≤ a
  · have hb' : ((s.T.base : Nat) : Int) ≤ ((a : Nat) : Int) := by omega
    simp only [hb', decide_true, e_fd, e_nck, e_pkt, e_pkf, e_gdtt, e_gdtf, e_gdft, e_gdff, e_ift, e_iff, e_not, e_ln, e_lnT, e_cp, e_cvi, e_ex20, e_ex21, e_ex30, e_ex31, e_ex32, e_add, e_sub, e_mul, e_quo, e_rem, e_and, e_or, e_xor, e_shl, e_shr, e_eql, e_neq, e_lss, e_leq, e_gtr, e_geq, e_beq, e_bne, e_peq1, e_peq2, e_pne1, e_pne2, e_zeq1, e_zeq2, e_zne1, e_zne2, e_feq1, e_fne1, e_feq2, e_fne2, e_seq, e_sne, e_ta1, e_ta2, Nat.zero_add, Nat.add_zero, Bool.not_true, Bool.not_false]
    refine ld1_r r3' rfl ?_
    try simp only [e_fd, e_nck, e_pkt, e_pkf, e_gdtt, e_gdtf, e_gdft, e_gdff, e_ift, e_iff, e_not, e_ln, e_lnT, e_cp, e_cvi, e_ex20, e_ex21, e_ex30, e_ex31, e_ex32, e_add, e_sub, e_mul, e_quo, e_rem, e_and, e_or, e_xor, e_shl, e_shr, e_eql, e_neq, e_lss, e_leq, e_gtr, e_geq, e_beq, e_bne, e_peq1, e_peq2, e_pne1, e_pne2, e_zeq1, e_zeq2, e_zne1, e_zne2, e_feq1, e_fne1, e_feq2, e_fne2, e_seq, e_sne, e_ta1, e_ta2, Nat.zero_add, Nat.add_zero, Bool.not_true, Bool.not_false]
    refine ld1_r r3' rfl ?_
    try simp only [e_fd, e_nck, e_pkt, e_pkf, e_gdtt, e_gdtf, e_gdft, e_gdff, e_ift, e_iff, e_not, e_ln, e_lnT, e_cp, e_cvi, e_ex20, e_ex21, e_ex30, e_ex31, e_ex32, e_add, e_sub, e_mul, e_quo, e_rem, e_and, e_or, e_xor, e_shl, e_shr, e_eql, e_neq, e_lss, e_leq, e_gtr, e_geq, e_beq, e_bne, e_peq1, e_peq2, e_pne1, e_pne2, e_zeq1, e_zeq2, e_zne1, e_zne2, e_feq1, e_fne1, e_feq2, e_fne2, e_seq, e_sne, e_ta1, e_ta2, Nat.zero_add, Nat.add_zero, Bool.not_true, Bool.not_false]
    rw [w64 (show a < 18446744073709551616 by omega), w64 (show s.T.base < 18446744073709551616 by omega), w64 (show s.T.wd < 18446744073709551616 by omega), show ((s.T.base : Nat) : Int) + ((s.T.wd : Nat) : Int) = ((s.T.lim : Nat) : Int) by omega, w64 (show s.T.lim < 18446744073709551616 by omega)]
    by_cases hl : a < s.T.lim
    · have hl' : ((a : Nat) : Int) < ((s.T.lim : Nat) : Int) := by omega
      rw [show decide (s.T.base ≤ a ∧ a < s.T.lim) = true by simp [hb, hl]] at hK
      simp only [hl', decide_true, e_fd, e_nck, e_pkt, e_pkf, e_gdtt, e_gdtf, e_gdft, e_gdff, e_ift, e_iff, e_not, e_ln, e_lnT, e_cp, e_cvi, e_ex20, e_ex21, e_ex30, e_ex31, e_ex32, e_add, e_sub, e_mul, e_quo, e_rem, e_and, e_or, e_xor, e_shl, e_shr, e_eql, e_neq, e_lss, e_leq, e_gtr, e_geq, e_beq, e_bne, e_peq1, e_peq2, e_pne1, e_pne2, e_zeq1, e_zeq2, e_zne1, e_zne2, e_feq1, e_fne1, e_feq2, e_fne2, e_seq, e_sne, e_ta1, e_ta2, Nat.zero_add, Nat.add_zero, Bool.not_true, Bool.not_false]; exact hK
    · have hl' : ¬ ((a : Nat) : Int) < ((s.T.lim : Nat) : Int) := by omega
      rw [show decide (s.T.base ≤ a ∧ a < s.T.lim) = false by simp [hl]] at hK
      simp only [hl', decide_false, e_fd, e_nck, e_pkt, e_pkf, e_gdtt, e_gdtf, e_gdft, e_gdff, e_ift, e_iff, e_not, e_ln, e_lnT, e_cp, e_cvi, e_ex20, e_ex21, e_ex30, e_ex31, e_ex32, e_add, e_sub, e_mul, e_quo, e_rem, e_and, e_or, e_xor, e_shl, e_shr, e_eql, e_neq, e_lss, e_leq, e_gtr, e_geq, e_beq, e_bne, e_peq1, e_peq2, e_pne1, e_pne2, e_zeq1, e_zeq2, e_zne1, e_zne2, e_feq1, e_fne1, e_feq2, e_fne2, e_seq, e_sne, e_ta1, e_ta2, Nat.zero_add, Nat.add_zero, Bool.not_true, Bool.not_false]; exact hK
  · have hb' : ¬ ((s.T.base : Nat) : Int) ≤ ((a : Nat) : Int) := by omega
    rw [show decide (s.T.base ≤ a ∧ a < s.T.lim) = false by simp [hb]] at hK
    simp only [hb', decide_false, e_fd, e_nck, e_pkt, e_pkf, e_gdtt, e_gdtf, e_gdft, e_gdff, e_ift, e_iff, e_not, e_ln, e_lnT, e_cp, e_cvi, e_ex20, e_ex21, e_ex30, e_ex31, e_ex32, e_add, e_sub, e_mul, e_quo, e_rem, e_and, e_or, e_xor, e_shl, e_shr, e_eql, e_neq, e_lss, e_leq, e_gtr, e_geq, e_beq, e_bne, e_peq1, e_peq2, e_pne1, e_pne2, e_zeq1, e_zeq2, e_zne1, e_zne2, e_feq1, e_fne1, e_feq2, e_fne2, e_seq, e_sne, e_ta1, e_ta2, Nat.zero_add, Nat.add_zero, Bool.not_true, Bool.not_false]; exact hK
/-- the distance from a pool's block 0 -/
theorem offset_ok {a : Nat} {id : Int} (h : LSt W w m s) (ha : a < 4294967296) (hK : ∀ w', Kp (fun _ => False) w w' → K (I ((a : Int) - (match pl s.T id with | some sh => (sh.fst : Int) | none => 0))) w') : cl Tryd.prog 19 #[P m.wdb 0, I id, U32 a] K w := by
  apply c19
  unfold s19_p1
  try simp only [e_fd, e_nck, e_pkt, e_pkf, e_gdtt, e_gdtf, e_gdft, e_gdff, e_ift, e_iff, e_not, e_ln, e_lnT, e_cp, e_cvi, e_ex20, e_ex21, e_ex30, e_ex31, e_ex32, e_add, e_sub, e_mul, e_quo, e_rem, e_and, e_or, e_xor, e_shl, e_shr, e_eql, e_neq, e_lss, e_leq, e_gtr, e_geq, e_beq, e_bne, e_peq1, e_peq2, e_pne1, e_pne2, e_zeq1, e_zeq2, e_zne1, e_zne2, e_feq1, e_fne1, e_feq2, e_fne2, e_seq, e_sne, e_ta1, e_ta2, Nat.zero_add, Nat.add_zero, Bool.not_true, Bool.not_false]
  refine ld1_r h.wd.row rfl ?_
  refine info_ok h.wd.tbl (fun hn w1 hk1 => ?_) (fun i hi hid w1 hk1 => ?_)
  · rw [pl_none hn] at hK
    try simp only [e_fd, e_nck, e_pkt, e_pkf, e_gdtt, e_gdtf, e_gdft, e_gdff, e_ift, e_iff, e_not, e_ln, e_lnT, e_cp, e_cvi, e_ex20, e_ex21, e_ex30, e_ex31, e_ex32, e_add, e_sub, e_mul, e_quo, e_rem, e_and, e_or, e_xor, e_shl, e_shr, e_eql, e_neq, e_lss, e_leq, e_gtr, e_geq, e_beq, e_bne, e_peq1, e_peq2, e_pne1, e_pne2, e_zeq1, e_zeq2, e_zne1, e_zne2, e_feq1, e_fne1, e_feq2, e_fne2, e_seq, e_sne, e_ta1, e_ta2, Nat.zero_add, Nat.add_zero, Bool.not_true, Bool.not_false]
    refine nw_r fun w2 r2 hk2 hz2 => ?_
    refine stn_r (cs := [U32 0, U32 0, U32 0]) r2 rfl (show 0 + 3 ≤ 3 by decide) rfl fun w3 r3 hk3 hz3 => ?_
    have k03 : Kp (fun _ => False) w w3 := (hk1.trans hk2).then hk3 (fun b hb (q : b = _) => by have := hk1.size; omega)
    try simp only [e_fd, e_nck, e_pkt, e_pkf, e_gdtt, e_gdtf, e_gdft, e_gdff, e_ift, e_iff, e_not, e_ln, e_lnT, e_cp, e_cvi, e_ex20, e_ex21, e_ex30, e_ex31, e_ex32, e_add, e_sub, e_mul, e_quo, e_rem, e_and, e_or, e_xor, e_shl, e_shr, e_eql, e_neq, e_lss, e_leq, e_gtr, e_geq, e_beq, e_bne, e_peq1, e_peq2, e_pne1, e_pne2, e_zeq1, e_zeq2, e_zne1, e_zne2, e_feq1, e_fne1, e_feq2, e_fne2, e_seq, e_sne, e_ta1, e_ta2, Nat.zero_add, Nat.add_zero, Bool.not_true, Bool.not_false]
    refine ld1_r r3 rfl ?_
    try simp only [e_fd, e_nck, e_pkt, e_pkf, e_gdtt, e_gdtf, e_gdft, e_gdff, e_ift, e_iff, e_not, e_ln, e_lnT, e_cp, e_cvi, e_ex20, e_ex21, e_ex30, e_ex31, e_ex32, e_add, e_sub, e_mul, e_quo, e_rem, e_and, e_or, e_xor, e_shl, e_shr, e_eql, e_neq, e_lss, e_leq, e_gtr, e_geq, e_beq, e_bne, e_peq1, e_peq2, e_pne1, e_pne2, e_zeq1, e_zeq2, e_zne1, e_zne2, e_feq1, e_fne1, e_feq2, e_fne2, e_seq, e_sne, e_ta1, e_ta2, Nat.zero_add, Nat.add_zero, Bool.not_true, Bool.not_false]
    have := hK w3 k03
    rw [wrap64_id (n := ((a : Nat) : Int)) (by omega) (by omega), wrap64_id (n := ((0 : Nat) : Int)) (by omega) (by omega), wrap64_id (by omega) (by omega)]
    exact this
  · subst hid
    rw [pl_some hi] at hK
    have hl := (h.wd.ok.sh _ (List.getElem_mem hi)).1
    have hl1 := hl.lim
    have hl2 := hl.fin
    try simp only [e_fd, e_nck, e_pkt, e_pkf, e_gdtt, e_gdtf, e_gdft, e_gdff, e_ift, e_iff, e_not, e_ln, e_lnT, e_cp, e_cvi, e_ex20, e_ex21, e_ex30, e_ex31, e_ex32, e_add, e_sub, e_mul, e_quo, e_rem, e_and, e_or, e_xor, e_shl, e_shr, e_eql, e_neq, e_lss, e_leq, e_gtr, e_geq, e_beq, e_bne, e_peq1, e_peq2, e_pne1, e_pne2, e_zeq1, e_zeq2, e_zne1, e_zne2, e_feq1, e_fne1, e_feq2, e_fne2, e_seq, e_sne, e_ta1, e_ta2, Nat.zero_add, Nat.add_zero, Bool.not_true, Bool.not_false]
    refine nw_r fun w2 r2 hk2 hz2 => ?_
    refine stn_r (cs := [U32 s.T.ps[i].fst, U32 s.T.ps[i].bw, U32 s.T.ps[i].n]) r2 rfl (show 0 + 3 ≤ 3 by decide) rfl fun w3 r3 hk3 hz3 => ?_
    have k03 : Kp (fun _ => False) w w3 := (hk1.trans hk2).then hk3 (fun b hb (q : b = _) => by have := hk1.size; omega)
    try simp only [e_fd, e_nck, e_pkt, e_pkf, e_gdtt, e_gdtf, e_gdft, e_gdff, e_ift, e_iff, e_not, e_ln, e_lnT, e_cp, e_cvi, e_ex20, e_ex21, e_ex30, e_ex31, e_ex32, e_add, e_sub, e_mul, e_quo, e_rem, e_and, e_or, e_xor, e_shl, e_shr, e_eql, e_neq, e_lss, e_leq, e_gtr, e_geq, e_beq, e_bne, e_peq1, e_peq2, e_pne1, e_pne2, e_zeq1, e_zeq2, e_zne1, e_zne2, e_feq1, e_fne1, e_feq2, e_fne2, e_seq, e_sne, e_ta1, e_ta2, Nat.zero_add, Nat.add_zero, Bool.not_true, Bool.not_false]
    refine ld1_r r3 rfl ?_
    try simp only [e_fd, e_nck, e_pkt, e_pkf, e_gdtt, e_gdtf, e_gdft, e_gdff, e_ift, e_iff, e_not, e_ln, e_lnT, e_cp, e_cvi, e_ex20, e_ex21, e_ex30, e_ex31, e_ex32, e_add, e_sub, e_mul, e_quo, e_rem, e_and, e_or, e_xor, e_shl, e_shr, e_eql, e_neq, e_lss, e_leq, e_gtr, e_geq, e_beq, e_bne, e_peq1, e_peq2, e_pne1, e_pne2, e_zeq1, e_zeq2, e_zne1, e_zne2, e_feq1, e_fne1, e_feq2, e_fne2, e_seq, e_sne, e_ta1, e_ta2, Nat.zero_add, Nat.add_zero, Bool.not_true, Bool.not_false]
    have := hK w3 k03
    rw [wrap64_id (n := ((a : Nat) : Int)) (by omega) (by omega), wrap64_id (n := ((s.T.ps[i].fst : Nat) : Int)) (by omega) (by omega), wrap64_id (by omega) (by omega)]
    exact this
end
end Go.Proofs.Qxb6500893aDoor
