import Derived.Test.Qxb6500897aP13
namespace Go.Proofs.Qxb6500897a
open Go.Sh Go.RowKit
set_option linter.unusedVariables false
set_option linter.unusedSimpArgs false

/-- a step of a script -/
structure Op where
  kind : Int
  attr : Int
  slot : Int
  to : Int
  cls : Int
  n : Int
def Op.cells (o : Op) : List Value := [I o.kind, I o.attr, I o.slot, I o.to, I o.cls, I o.n]

structure Res where
  now : Int
  ts : List Tab
  code : Int
  val : Int

/-- a step on the tables -/
def stepP (now : Int) (ts : List Tab) (o : Op) : Res :=
  if o.kind = 0 then ⟨now, admitTs now ts o.attr o.slot o.cls o.n, fitsC now ts o.attr o.slot o.cls o.n, 0⟩
  else if o.kind = 1 then ⟨now, relTs now ts o.attr o.slot o.cls o.n, relC now ts o.attr o.slot o.cls o.n, 0⟩
  else if o.kind = 2 then ⟨advNow now o.n, advTs now ts o.n, advC now o.n, 0⟩
  else if o.kind = 3 then ⟨now, ts, fitsC now ts o.attr o.slot o.cls o.n, 0⟩
  else if o.kind = 4 then ⟨now, ts, chk 6 now ts o.attr o.slot o.cls 1 0, if chk 6 now ts o.attr o.slot o.cls 1 0 = 0 then roomOf (tabOf ts o.attr) o.slot o.cls.toNat else 0⟩
  else if o.kind = 5 then ⟨now, ts, ffC now ts o.attr o.slot o.to o.cls o.n, ffVal now ts o.attr o.slot o.to o.cls o.n⟩
  else if o.kind = 6 then ⟨now, ts, chk 6 now ts o.attr o.slot 0 1 2, if chk 6 now ts o.attr o.slot 0 1 2 = 0 then occOf (tabOf ts o.attr) o.slot else 0⟩
  else if o.kind = 7 then ⟨now, ts, chk 6 now ts o.attr o.slot o.cls 1 2, if chk 6 now ts o.attr o.slot o.cls 1 2 = 0 then admOf (tabOf ts o.attr) o.slot o.cls.toNat else 0⟩
  else ⟨now, ts, 0, 0⟩

theorem play_ok {w : World} {d tb : Nat} {now : Int} {ts : List Tab} {o : Op} {K : Value → World → Prop} (h : Sys w d tb now ts) (hl : ts.length ≤ 4096)
    (hK : ∀ w', Tabs w' d tb 6 90 (stepP now ts o).now (stepP now ts o).ts → Kp (fun k => k = d ∨ k ∈ blks ts) w w' → K (.tuple #[I (stepP now ts o).code, I (stepP now ts o).val]) w') :
    cl Try.prog 17 #[.pointer (some ⟨d, 0, none⟩), .agg o.cells.toArray] K w := by
  apply c17
  unfold s17_p2
  refine nw_r fun w1 (r1 : Row w1 _ 34 [I o.kind, I o.attr, I o.slot, I o.to, I o.cls, I o.n]) hb1 hz1 => ?_
  simp only [e_fd, e_nck, e_pkt, e_pkf, e_gdtt, e_gdtf, e_gdft, e_gdff, e_ift, e_iff, e_not, e_ln, e_lnT, e_cp, e_cvi, e_ex20, e_ex21, e_ex30, e_ex31, e_ex32, e_add, e_sub, e_mul, e_quo, e_rem, e_and, e_or, e_xor, e_shl, e_shr, e_eql, e_neq, e_lss, e_leq, e_gtr, e_geq, e_beq, e_bne, e_peq1, e_peq2, e_pne1, e_pne2, e_zeq1, e_zeq2, e_zne1, e_zne2, e_feq1, e_fne1, e_feq2, e_fne2, e_seq, e_sne, e_ta1, e_ta2, Nat.zero_add, Nat.add_zero, Bool.not_true, Bool.not_false]
  refine ld1_r r1 rfl ?_
  simp only [e_fd, e_nck, e_pkt, e_pkf, e_gdtt, e_gdtf, e_gdft, e_gdff, e_ift, e_iff, e_not, e_ln, e_lnT, e_cp, e_cvi, e_ex20, e_ex21, e_ex30, e_ex31, e_ex32, e_add, e_sub, e_mul, e_quo, e_rem, e_and, e_or, e_xor, e_shl, e_shr, e_eql, e_neq, e_lss, e_leq, e_gtr, e_geq, e_beq, e_bne, e_peq1, e_peq2, e_pne1, e_pne2, e_zeq1, e_zeq2, e_zne1, e_zne2, e_feq1, e_fne1, e_feq2, e_fne2, e_seq, e_sne, e_ta1, e_ta2, Nat.zero_add, Nat.add_zero, Bool.not_true, Bool.not_false]
  have h1 := h.kp hb1
  unfold stepP at hK
  have quiet : ∀ w' v code val, ErrV w' v code → Kp (fun _ => False) w1 w' → (∀ w', Tabs w' d tb 6 90 now ts → Kp (fun k => k = d ∨ k ∈ blks ts) w w' → K (.tuple #[I code, I val]) w') → s17_p1 K v (I val) w' := by
    intro w' v code val hv hb hq
    unfold s17_p1
    refine codeOf_ok hv ?_
    exact hq w' (h1.tabs.kp hb) (hb1.trans hb).none
  by_cases k0 : o.kind = 0
  · simp only [if_pos k0] at hK
    have e : (o.kind == 0) = true := by simpa using k0
    simp only [e, e_fd, e_nck, e_pkt, e_pkf, e_gdtt, e_gdtf, e_gdft, e_gdff, e_ift, e_iff, e_not, e_ln, e_lnT, e_cp, e_cvi, e_ex20, e_ex21, e_ex30, e_ex31, e_ex32, e_add, e_sub, e_mul, e_quo, e_rem, e_and, e_or, e_xor, e_shl, e_shr, e_eql, e_neq, e_lss, e_leq, e_gtr, e_geq, e_beq, e_bne, e_peq1, e_peq2, e_pne1, e_pne2, e_zeq1, e_zeq2, e_zne1, e_zne2, e_feq1, e_fne1, e_feq2, e_fne2, e_seq, e_sne, e_ta1, e_ta2, Nat.zero_add, Nat.add_zero, Bool.not_true, Bool.not_false]
    refine ld1_r r1 rfl ?_
    refine ld1_r r1 rfl ?_
    refine ld1_r r1 rfl ?_
    refine ld1_r r1 rfl ?_
    refine Admit_ok h1 fun w2 v hv ht hb2 => ?_
    unfold s17_p1
    refine codeOf_ok hv ?_
    exact hK w2 ht (hb1.none.trans (hb2.mono fun k _ e => .inr e))
  simp only [if_neg k0] at hK
  have e : (o.kind == 0) = false := by simpa using k0
  simp only [e, e_fd, e_nck, e_pkt, e_pkf, e_gdtt, e_gdtf, e_gdft, e_gdff, e_ift, e_iff, e_not, e_ln, e_lnT, e_cp, e_cvi, e_ex20, e_ex21, e_ex30, e_ex31, e_ex32, e_add, e_sub, e_mul, e_quo, e_rem, e_and, e_or, e_xor, e_shl, e_shr, e_eql, e_neq, e_lss, e_leq, e_gtr, e_geq, e_beq, e_bne, e_peq1, e_peq2, e_pne1, e_pne2, e_zeq1, e_zeq2, e_zne1, e_zne2, e_feq1, e_fne1, e_feq2, e_fne2, e_seq, e_sne, e_ta1, e_ta2, Nat.zero_add, Nat.add_zero, Bool.not_true, Bool.not_false]
  clear e
  by_cases k1 : o.kind = 1
  · simp only [if_pos k1] at hK
    have e : (o.kind == 1) = true := by simpa using k1
    simp only [e, e_fd, e_nck, e_pkt, e_pkf, e_gdtt, e_gdtf, e_gdft, e_gdff, e_ift, e_iff, e_not, e_ln, e_lnT, e_cp, e_cvi, e_ex20, e_ex21, e_ex30, e_ex31, e_ex32, e_add, e_sub, e_mul, e_quo, e_rem, e_and, e_or, e_xor, e_shl, e_shr, e_eql, e_neq, e_lss, e_leq, e_gtr, e_geq, e_beq, e_bne, e_peq1, e_peq2, e_pne1, e_pne2, e_zeq1, e_zeq2, e_zne1, e_zne2, e_feq1, e_fne1, e_feq2, e_fne2, e_seq, e_sne, e_ta1, e_ta2, Nat.zero_add, Nat.add_zero, Bool.not_true, Bool.not_false]
    refine ld1_r r1 rfl ?_
    refine ld1_r r1 rfl ?_
    refine ld1_r r1 rfl ?_
    refine ld1_r r1 rfl ?_
    refine Release_ok h1 fun w2 v hv ht hb2 => ?_
    unfold s17_p1
    refine codeOf_ok hv ?_
    exact hK w2 ht (hb1.none.trans (hb2.mono fun k _ e => .inr e))
  simp only [if_neg k1] at hK
  have e : (o.kind == 1) = false := by simpa using k1
  simp only [e, e_fd, e_nck, e_pkt, e_pkf, e_gdtt, e_gdtf, e_gdft, e_gdff, e_ift, e_iff, e_not, e_ln, e_lnT, e_cp, e_cvi, e_ex20, e_ex21, e_ex30, e_ex31, e_ex32, e_add, e_sub, e_mul, e_quo, e_rem, e_and, e_or, e_xor, e_shl, e_shr, e_eql, e_neq, e_lss, e_leq, e_gtr, e_geq, e_beq, e_bne, e_peq1, e_peq2, e_pne1, e_pne2, e_zeq1, e_zeq2, e_zne1, e_zne2, e_feq1, e_fne1, e_feq2, e_fne2, e_seq, e_sne, e_ta1, e_ta2, Nat.zero_add, Nat.add_zero, Bool.not_true, Bool.not_false]
  clear e
  by_cases k2 : o.kind = 2
  · simp only [if_pos k2] at hK
    have e : (o.kind == 2) = true := by simpa using k2
    simp only [e, e_fd, e_nck, e_pkt, e_pkf, e_gdtt, e_gdtf, e_gdft, e_gdff, e_ift, e_iff, e_not, e_ln, e_lnT, e_cp, e_cvi, e_ex20, e_ex21, e_ex30, e_ex31, e_ex32, e_add, e_sub, e_mul, e_quo, e_rem, e_and, e_or, e_xor, e_shl, e_shr, e_eql, e_neq, e_lss, e_leq, e_gtr, e_geq, e_beq, e_bne, e_peq1, e_peq2, e_pne1, e_pne2, e_zeq1, e_zeq2, e_zne1, e_zne2, e_feq1, e_fne1, e_feq2, e_fne2, e_seq, e_sne, e_ta1, e_ta2, Nat.zero_add, Nat.add_zero, Bool.not_true, Bool.not_false]
    refine ld1_r r1 rfl ?_
    refine Advance_ok h1 hl fun w2 v hv ht hb2 => ?_
    unfold s17_p1
    refine codeOf_ok hv ?_
    exact hK w2 ht (hb1.none.trans hb2)
  simp only [if_neg k2] at hK
  have e : (o.kind == 2) = false := by simpa using k2
  simp only [e, e_fd, e_nck, e_pkt, e_pkf, e_gdtt, e_gdtf, e_gdft, e_gdff, e_ift, e_iff, e_not, e_ln, e_lnT, e_cp, e_cvi, e_ex20, e_ex21, e_ex30, e_ex31, e_ex32, e_add, e_sub, e_mul, e_quo, e_rem, e_and, e_or, e_xor, e_shl, e_shr, e_eql, e_neq, e_lss, e_leq, e_gtr, e_geq, e_beq, e_bne, e_peq1, e_peq2, e_pne1, e_pne2, e_zeq1, e_zeq2, e_zne1, e_zne2, e_feq1, e_fne1, e_feq2, e_fne2, e_seq, e_sne, e_ta1, e_ta2, Nat.zero_add, Nat.add_zero, Bool.not_true, Bool.not_false]
  clear e
  by_cases k3 : o.kind = 3
  · simp only [if_pos k3] at hK
    have e : (o.kind == 3) = true := by simpa using k3
    simp only [e, e_fd, e_nck, e_pkt, e_pkf, e_gdtt, e_gdtf, e_gdft, e_gdff, e_ift, e_iff, e_not, e_ln, e_lnT, e_cp, e_cvi, e_ex20, e_ex21, e_ex30, e_ex31, e_ex32, e_add, e_sub, e_mul, e_quo, e_rem, e_and, e_or, e_xor, e_shl, e_shr, e_eql, e_neq, e_lss, e_leq, e_gtr, e_geq, e_beq, e_bne, e_peq1, e_peq2, e_pne1, e_pne2, e_zeq1, e_zeq2, e_zne1, e_zne2, e_feq1, e_fne1, e_feq2, e_fne2, e_seq, e_sne, e_ta1, e_ta2, Nat.zero_add, Nat.add_zero, Bool.not_true, Bool.not_false]
    refine ld1_r r1 rfl ?_
    refine ld1_r r1 rfl ?_
    refine ld1_r r1 rfl ?_
    refine ld1_r r1 rfl ?_
    refine Fits_ok h1 fun w2 v hv hb2 => ?_
    exact quiet w2 v _ _ hv hb2 hK
  simp only [if_neg k3] at hK
  have e : (o.kind == 3) = false := by simpa using k3
  simp only [e, e_fd, e_nck, e_pkt, e_pkf, e_gdtt, e_gdtf, e_gdft, e_gdff, e_ift, e_iff, e_not, e_ln, e_lnT, e_cp, e_cvi, e_ex20, e_ex21, e_ex30, e_ex31, e_ex32, e_add, e_sub, e_mul, e_quo, e_rem, e_and, e_or, e_xor, e_shl, e_shr, e_eql, e_neq, e_lss, e_leq, e_gtr, e_geq, e_beq, e_bne, e_peq1, e_peq2, e_pne1, e_pne2, e_zeq1, e_zeq2, e_zne1, e_zne2, e_feq1, e_fne1, e_feq2, e_fne2, e_seq, e_sne, e_ta1, e_ta2, Nat.zero_add, Nat.add_zero, Bool.not_true, Bool.not_false]
  clear e
  by_cases k4 : o.kind = 4
  · simp only [if_pos k4] at hK
    have e : (o.kind == 4) = true := by simpa using k4
    simp only [e, e_fd, e_nck, e_pkt, e_pkf, e_gdtt, e_gdtf, e_gdft, e_gdff, e_ift, e_iff, e_not, e_ln, e_lnT, e_cp, e_cvi, e_ex20, e_ex21, e_ex30, e_ex31, e_ex32, e_add, e_sub, e_mul, e_quo, e_rem, e_and, e_or, e_xor, e_shl, e_shr, e_eql, e_neq, e_lss, e_leq, e_gtr, e_geq, e_beq, e_bne, e_peq1, e_peq2, e_pne1, e_pne2, e_zeq1, e_zeq2, e_zne1, e_zne2, e_feq1, e_fne1, e_feq2, e_fne2, e_seq, e_sne, e_ta1, e_ta2, Nat.zero_add, Nat.add_zero, Bool.not_true, Bool.not_false]
    refine ld1_r r1 rfl ?_
    refine ld1_r r1 rfl ?_
    refine ld1_r r1 rfl ?_
    refine Room_ok h1 fun w2 v hv hb2 => ?_
    simp only [e_fd, e_nck, e_pkt, e_pkf, e_gdtt, e_gdtf, e_gdft, e_gdff, e_ift, e_iff, e_not, e_ln, e_lnT, e_cp, e_cvi, e_ex20, e_ex21, e_ex30, e_ex31, e_ex32, e_add, e_sub, e_mul, e_quo, e_rem, e_and, e_or, e_xor, e_shl, e_shr, e_eql, e_neq, e_lss, e_leq, e_gtr, e_geq, e_beq, e_bne, e_peq1, e_peq2, e_pne1, e_pne2, e_zeq1, e_zeq2, e_zne1, e_zne2, e_feq1, e_fne1, e_feq2, e_fne2, e_seq, e_sne, e_ta1, e_ta2, Nat.zero_add, Nat.add_zero, Bool.not_true, Bool.not_false]
    exact quiet w2 v _ _ hv hb2 hK
  simp only [if_neg k4] at hK
  have e : (o.kind == 4) = false := by simpa using k4
  simp only [e, e_fd, e_nck, e_pkt, e_pkf, e_gdtt, e_gdtf, e_gdft, e_gdff, e_ift, e_iff, e_not, e_ln, e_lnT, e_cp, e_cvi, e_ex20, e_ex21, e_ex30, e_ex31, e_ex32, e_add, e_sub, e_mul, e_quo, e_rem, e_and, e_or, e_xor, e_shl, e_shr, e_eql, e_neq, e_lss, e_leq, e_gtr, e_geq, e_beq, e_bne, e_peq1, e_peq2, e_pne1, e_pne2, e_zeq1, e_zeq2, e_zne1, e_zne2, e_feq1, e_fne1, e_feq2, e_fne2, e_seq, e_sne, e_ta1, e_ta2, Nat.zero_add, Nat.add_zero, Bool.not_true, Bool.not_false]
  clear e
  by_cases k5 : o.kind = 5
  · simp only [if_pos k5] at hK
    have e : (o.kind == 5) = true := by simpa using k5
    simp only [e, e_fd, e_nck, e_pkt, e_pkf, e_gdtt, e_gdtf, e_gdft, e_gdff, e_ift, e_iff, e_not, e_ln, e_lnT, e_cp, e_cvi, e_ex20, e_ex21, e_ex30, e_ex31, e_ex32, e_add, e_sub, e_mul, e_quo, e_rem, e_and, e_or, e_xor, e_shl, e_shr, e_eql, e_neq, e_lss, e_leq, e_gtr, e_geq, e_beq, e_bne, e_peq1, e_peq2, e_pne1, e_pne2, e_zeq1, e_zeq2, e_zne1, e_zne2, e_feq1, e_fne1, e_feq2, e_fne2, e_seq, e_sne, e_ta1, e_ta2, Nat.zero_add, Nat.add_zero, Bool.not_true, Bool.not_false]
    refine ld1_r r1 rfl ?_
    refine ld1_r r1 rfl ?_
    refine ld1_r r1 rfl ?_
    refine ld1_r r1 rfl ?_
    refine ld1_r r1 rfl ?_
    refine FirstFit_ok h1 fun w2 v hv hb2 => ?_
    simp only [e_fd, e_nck, e_pkt, e_pkf, e_gdtt, e_gdtf, e_gdft, e_gdff, e_ift, e_iff, e_not, e_ln, e_lnT, e_cp, e_cvi, e_ex20, e_ex21, e_ex30, e_ex31, e_ex32, e_add, e_sub, e_mul, e_quo, e_rem, e_and, e_or, e_xor, e_shl, e_shr, e_eql, e_neq, e_lss, e_leq, e_gtr, e_geq, e_beq, e_bne, e_peq1, e_peq2, e_pne1, e_pne2, e_zeq1, e_zeq2, e_zne1, e_zne2, e_feq1, e_fne1, e_feq2, e_fne2, e_seq, e_sne, e_ta1, e_ta2, Nat.zero_add, Nat.add_zero, Bool.not_true, Bool.not_false]
    exact quiet w2 v _ _ hv hb2 hK
  simp only [if_neg k5] at hK
  have e : (o.kind == 5) = false := by simpa using k5
  simp only [e, e_fd, e_nck, e_pkt, e_pkf, e_gdtt, e_gdtf, e_gdft, e_gdff, e_ift, e_iff, e_not, e_ln, e_lnT, e_cp, e_cvi, e_ex20, e_ex21, e_ex30, e_ex31, e_ex32, e_add, e_sub, e_mul, e_quo, e_rem, e_and, e_or, e_xor, e_shl, e_shr, e_eql, e_neq, e_lss, e_leq, e_gtr, e_geq, e_beq, e_bne, e_peq1, e_peq2, e_pne1, e_pne2, e_zeq1, e_zeq2, e_zne1, e_zne2, e_feq1, e_fne1, e_feq2, e_fne2, e_seq, e_sne, e_ta1, e_ta2, Nat.zero_add, Nat.add_zero, Bool.not_true, Bool.not_false]
  clear e
  by_cases k6 : o.kind = 6
  · simp only [if_pos k6] at hK
    have e : (o.kind == 6) = true := by simpa using k6
    simp only [e, e_fd, e_nck, e_pkt, e_pkf, e_gdtt, e_gdtf, e_gdft, e_gdff, e_ift, e_iff, e_not, e_ln, e_lnT, e_cp, e_cvi, e_ex20, e_ex21, e_ex30, e_ex31, e_ex32, e_add, e_sub, e_mul, e_quo, e_rem, e_and, e_or, e_xor, e_shl, e_shr, e_eql, e_neq, e_lss, e_leq, e_gtr, e_geq, e_beq, e_bne, e_peq1, e_peq2, e_pne1, e_pne2, e_zeq1, e_zeq2, e_zne1, e_zne2, e_feq1, e_fne1, e_feq2, e_fne2, e_seq, e_sne, e_ta1, e_ta2, Nat.zero_add, Nat.add_zero, Bool.not_true, Bool.not_false]
    refine ld1_r r1 rfl ?_
    refine ld1_r r1 rfl ?_
    refine Occupancy_ok h1 fun w2 v hv hb2 => ?_
    simp only [e_fd, e_nck, e_pkt, e_pkf, e_gdtt, e_gdtf, e_gdft, e_gdff, e_ift, e_iff, e_not, e_ln, e_lnT, e_cp, e_cvi, e_ex20, e_ex21, e_ex30, e_ex31, e_ex32, e_add, e_sub, e_mul, e_quo, e_rem, e_and, e_or, e_xor, e_shl, e_shr, e_eql, e_neq, e_lss, e_leq, e_gtr, e_geq, e_beq, e_bne, e_peq1, e_peq2, e_pne1, e_pne2, e_zeq1, e_zeq2, e_zne1, e_zne2, e_feq1, e_fne1, e_feq2, e_fne2, e_seq, e_sne, e_ta1, e_ta2, Nat.zero_add, Nat.add_zero, Bool.not_true, Bool.not_false]
    exact quiet w2 v _ _ hv hb2 hK
  simp only [if_neg k6] at hK
  have e : (o.kind == 6) = false := by simpa using k6
  simp only [e, e_fd, e_nck, e_pkt, e_pkf, e_gdtt, e_gdtf, e_gdft, e_gdff, e_ift, e_iff, e_not, e_ln, e_lnT, e_cp, e_cvi, e_ex20, e_ex21, e_ex30, e_ex31, e_ex32, e_add, e_sub, e_mul, e_quo, e_rem, e_and, e_or, e_xor, e_shl, e_shr, e_eql, e_neq, e_lss, e_leq, e_gtr, e_geq, e_beq, e_bne, e_peq1, e_peq2, e_pne1, e_pne2, e_zeq1, e_zeq2, e_zne1, e_zne2, e_feq1, e_fne1, e_feq2, e_fne2, e_seq, e_sne, e_ta1, e_ta2, Nat.zero_add, Nat.add_zero, Bool.not_true, Bool.not_false]
  clear e
  by_cases k7 : o.kind = 7
  · simp only [if_pos k7] at hK
    have e : (o.kind == 7) = true := by simpa using k7
    simp only [e, e_fd, e_nck, e_pkt, e_pkf, e_gdtt, e_gdtf, e_gdft, e_gdff, e_ift, e_iff, e_not, e_ln, e_lnT, e_cp, e_cvi, e_ex20, e_ex21, e_ex30, e_ex31, e_ex32, e_add, e_sub, e_mul, e_quo, e_rem, e_and, e_or, e_xor, e_shl, e_shr, e_eql, e_neq, e_lss, e_leq, e_gtr, e_geq, e_beq, e_bne, e_peq1, e_peq2, e_pne1, e_pne2, e_zeq1, e_zeq2, e_zne1, e_zne2, e_feq1, e_fne1, e_feq2, e_fne2, e_seq, e_sne, e_ta1, e_ta2, Nat.zero_add, Nat.add_zero, Bool.not_true, Bool.not_false]
    refine ld1_r r1 rfl ?_
    refine ld1_r r1 rfl ?_
    refine ld1_r r1 rfl ?_
    refine Admitted_ok h1 fun w2 v hv hb2 => ?_
    simp only [e_fd, e_nck, e_pkt, e_pkf, e_gdtt, e_gdtf, e_gdft, e_gdff, e_ift, e_iff, e_not, e_ln, e_lnT, e_cp, e_cvi, e_ex20, e_ex21, e_ex30, e_ex31, e_ex32, e_add, e_sub, e_mul, e_quo, e_rem, e_and, e_or, e_xor, e_shl, e_shr, e_eql, e_neq, e_lss, e_leq, e_gtr, e_geq, e_beq, e_bne, e_peq1, e_peq2, e_pne1, e_pne2, e_zeq1, e_zeq2, e_zne1, e_zne2, e_feq1, e_fne1, e_feq2, e_fne2, e_seq, e_sne, e_ta1, e_ta2, Nat.zero_add, Nat.add_zero, Bool.not_true, Bool.not_false]
    exact quiet w2 v _ _ hv hb2 hK
  simp only [if_neg k7] at hK
  have e : (o.kind == 7) = false := by simpa using k7
  simp only [e, e_fd, e_nck, e_pkt, e_pkf, e_gdtt, e_gdtf, e_gdft, e_gdff, e_ift, e_iff, e_not, e_ln, e_lnT, e_cp, e_cvi, e_ex20, e_ex21, e_ex30, e_ex31, e_ex32, e_add, e_sub, e_mul, e_quo, e_rem, e_and, e_or, e_xor, e_shl, e_shr, e_eql, e_neq, e_lss, e_leq, e_gtr, e_geq, e_beq, e_bne, e_peq1, e_peq2, e_pne1, e_pne2, e_zeq1, e_zeq2, e_zne1, e_zne2, e_feq1, e_fne1, e_feq2, e_fne2, e_seq, e_sne, e_ta1, e_ta2, Nat.zero_add, Nat.add_zero, Bool.not_true, Bool.not_false]
  exact quiet w1 _ _ _ (.inl ⟨rfl, rfl⟩) (Kp.refl _ _) hK

theorem fresh_ok {K : Value → World → Prop} {w : World}
    (hK : ∀ w' d tb ts, w.heap.size ≤ d → w.heap.size ≤ tb → FreshTs 6 parkA ts → Tabs w' d tb 6 90 0 ts → (∀ b ∈ blks ts, w.heap.size ≤ b) → Kp (fun _ => False) w w' → K (.pointer (some ⟨d, 0, none⟩)) w') :
    cl Try.prog 14 #[] K w := by
  apply c14
  unfold s14_p2
  refine park_ok fun w1 b hb r1 hb1 => ?_
  have hz := hb1.size
  refine new_good (av := parkA) (by decide) (.inr ⟨b, rfl, r1⟩) fun w2 d tb ts hd ht hfr htabs hbl hb2 => ?_
  simp only [e_fd, e_nck, e_pkt, e_pkf, e_gdtt, e_gdtf, e_gdft, e_gdff, e_ift, e_iff, e_not, e_ln, e_lnT, e_cp, e_cvi, e_ex20, e_ex21, e_ex30, e_ex31, e_ex32, e_add, e_sub, e_mul, e_quo, e_rem, e_and, e_or, e_xor, e_shl, e_shr, e_eql, e_neq, e_lss, e_leq, e_gtr, e_geq, e_beq, e_bne, e_peq1, e_peq2, e_pne1, e_pne2, e_zeq1, e_zeq2, e_zne1, e_zne2, e_feq1, e_fne1, e_feq2, e_fne2, e_seq, e_sne, e_ta1, e_ta2, Nat.zero_add, Nat.add_zero, Bool.not_true, Bool.not_false]
  unfold s14_p1
  exact hK w2 d tb ts (by omega) (by omega) hfr htabs (fun b hb => by have := hbl b hb; omega) (hb1.trans hb2)
end Go.Proofs.Qxb6500897a
