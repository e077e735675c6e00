import Derived.Test.Qxb6500896aGreatK54
namespace Go.Proofs.Qxb6500896aGreat
open Go.Sh Go.RowKit
set_option linter.unusedVariables false
set_option linter.unusedSimpArgs false

/-- the answer to a party that joins -/
def joR (q : Rq) (j : JoinR) : Rp := if j.code = 0 then { rp0 with op := q.op, id := j.id, pos := j.place } else rf j.code
/-- a tick -/
def tkS (C : Cfg) (σ : Sg) : Sg := if C.mc ≤ σ.now then σ else { σ with now := σ.now + 1, rs := tSweep C (σ.now + 1) (tServe C σ.now σ.rs σ.ls).rs, ls := (tServe C σ.now σ.rs σ.ls).ls }
def tkR (C : Cfg) (q : Rq) (σ : Sg) : Rp :=
  if C.mc ≤ σ.now then rf 11 else
  { rp0 with op := q.op, now := σ.now + 1, iss := (tServe C σ.now σ.rs σ.ls).iss, exd := ((tServe C σ.now σ.rs σ.ls).rs.countP (isE (σ.now + 1)) : Nat), ns := ((tServe C σ.now σ.rs σ.ls).rs.countP (isS C (σ.now + 1)) : Nat), lp := ((tServe C σ.now σ.rs σ.ls).rs.countP (isL C (σ.now + 1)) : Nat) }
section
variable {F G M0 M M' S V : Nat → Prop} {w w' w0 w1 : World} {v rv lv iv : Value} {l : List Value} {n wb e t b c ib : Nat} {rob rob' : Option Nat} {lobs lobs' : List (Option Nat)} {C : Cfg} {ls ls' : List (List Int)} {rs rs' : List Rec} {K : Value → World → Prop} {m0 m m' : Me} {σ σ' : Sg} {J J' : Jr} {q : Rq} {p : Rp} {code : Int}
theorem En.nI {xs : List Iss} (h : En M w e m C σ J) (si : Sl isC2 2 w 90 (some ib) iv xs) : ¬ OwnE e m ib := by
  obtain ⟨l, hl⟩ := si.row rfl
  intro q
  rcases q with q | q | q | q | q
  · obtain ⟨va, vt, env, r, _⟩ := h.ex
    exact row_ne hl r (by decide) q
  · obtain ⟨T, l', r', q'⟩ := h.tyT q
    have := row_ty hl r'
    subst this
    revert q'; decide
  · obtain ⟨T, l', r', q'⟩ := h.tyL q
    have := row_ty hl r'
    subst this
    revert q'; decide
  · obtain ⟨T, l', r', q'⟩ := h.tyJ q
    have := row_ty hl r'
    subst this
    revert q'; decide
  · obtain ⟨l', r'⟩ := h.tyN q
    exact row_ne hl r' (by decide) rfl
theorem joinE_ok (cv : CV C) (h : En M w e m C σ J) (hll : σ.ls.length = C.ats.length) (ha : 0 ≤ q.at' ∧ q.at' < ((C.ats.length : Nat) : Int)) (hsc : scal lv = true)
    (hK : EnK M w e m C { σ with rs := (tJoin C q.at' q.cl q.sz σ.rs σ.ls).rs, ls := (tJoin C q.at' q.cl q.sz σ.rs σ.ls).ls } J fun w' m' => K (.agg ((joR q (tJoin C q.at' q.cl q.sz σ.rs σ.ls)).cells nilS nilS nilS).toArray) w') : cl Tryz.prog 212 #[P e 0, .agg (q.cells lv).toArray] K w := by
  apply c212
  unfold s212_p3
  refine nw_r fun w1 r1 hk1 hz1 => ?_
  replace r1 : Row w1 w.heap.size 52 (q.cells lv) := r1
  refine nw_r fun w2 r2 hk2 hz2 => ?_
  replace r2 : Row w2 w1.heap.size 94 (rp0.cells nilS nilS nilS) := r2
  have r12 := hk2.row' r1
  have s2 := (((Es.start h).new hk1 (Nat.le_refl _) (by omega)).new hk2 (Nat.le_refl _) (by omega))
  unfold s212_p2 s212_p2_d
  have kd : Kp Emp w2 (drw w2) := kp_drw
  generalize drw w2 = w3 at kd ⊢
  have s3 := s2.emp kd
  obtain ⟨va, vt, env, re⟩ := s3.row
  have q3 := kd.row' r12
  have p3 := kd.row' r2
  try simp only [e_fd, e_nck, e_pkt, e_pkf, e_gdtt, e_gdtf, e_gdft, e_gdff, e_ift, e_iff, e_not, e_ln, e_lnT, e_cp, e_cvi, e_ex20, e_ex21, e_ex30, e_ex31, e_ex32, e_add, e_sub, e_mul, e_quo, e_rem, e_and, e_or, e_xor, e_shl, e_shr, e_eql, e_neq, e_lss, e_leq, e_gtr, e_geq, e_beq, e_bne, e_peq1, e_peq2, e_pne1, e_pne2, e_zeq1, e_zeq2, e_zne1, e_zne2, e_feq1, e_fne1, e_feq2, e_fne2, e_seq, e_sne, e_ta1, e_ta2, Nat.zero_add, Nat.add_zero, Bool.not_true, Bool.not_false]
  refine ld1_r re rfl ?_
  try simp only [e_fd, e_nck, e_pkt, e_pkf, e_gdtt, e_gdtf, e_gdft, e_gdff, e_ift, e_iff, e_not, e_ln, e_lnT, e_cp, e_cvi, e_ex20, e_ex21, e_ex30, e_ex31, e_ex32, e_add, e_sub, e_mul, e_quo, e_rem, e_and, e_or, e_xor, e_shl, e_shr, e_eql, e_neq, e_lss, e_leq, e_gtr, e_geq, e_beq, e_bne, e_peq1, e_peq2, e_pne1, e_pne2, e_zeq1, e_zeq2, e_zne1, e_zne2, e_feq1, e_fne1, e_feq2, e_fne2, e_seq, e_sne, e_ta1, e_ta2, Nat.zero_add, Nat.add_zero, Bool.not_true, Bool.not_false]
  refine ld1_r re rfl ?_
  try simp only [e_fd, e_nck, e_pkt, e_pkf, e_gdtt, e_gdtf, e_gdft, e_gdff, e_ift, e_iff, e_not, e_ln, e_lnT, e_cp, e_cvi, e_ex20, e_ex21, e_ex30, e_ex31, e_ex32, e_add, e_sub, e_mul, e_quo, e_rem, e_and, e_or, e_xor, e_shl, e_shr, e_eql, e_neq, e_lss, e_leq, e_gtr, e_geq, e_beq, e_bne, e_peq1, e_peq2, e_pne1, e_pne2, e_zeq1, e_zeq2, e_zne1, e_zne2, e_feq1, e_fne1, e_feq2, e_fne2, e_seq, e_sne, e_ta1, e_ta2, Nat.zero_add, Nat.add_zero, Bool.not_true, Bool.not_false]
  refine ld1_r q3 rfl ?_
  try simp only [e_fd, e_nck, e_pkt, e_pkf, e_gdtt, e_gdtf, e_gdft, e_gdff, e_ift, e_iff, e_not, e_ln, e_lnT, e_cp, e_cvi, e_ex20, e_ex21, e_ex30, e_ex31, e_ex32, e_add, e_sub, e_mul, e_quo, e_rem, e_and, e_or, e_xor, e_shl, e_shr, e_eql, e_neq, e_lss, e_leq, e_gtr, e_geq, e_beq, e_bne, e_peq1, e_peq2, e_pne1, e_pne2, e_zeq1, e_zeq2, e_zne1, e_zne2, e_feq1, e_fne1, e_feq2, e_fne2, e_seq, e_sne, e_ta1, e_ta2, Nat.zero_add, Nat.add_zero, Bool.not_true, Bool.not_false]
  refine ld1_r q3 rfl ?_
  try simp only [e_fd, e_nck, e_pkt, e_pkf, e_gdtt, e_gdtf, e_gdft, e_gdff, e_ift, e_iff, e_not, e_ln, e_lnT, e_cp, e_cvi, e_ex20, e_ex21, e_ex30, e_ex31, e_ex32, e_add, e_sub, e_mul, e_quo, e_rem, e_and, e_or, e_xor, e_shl, e_shr, e_eql, e_neq, e_lss, e_leq, e_gtr, e_geq, e_beq, e_bne, e_peq1, e_peq2, e_pne1, e_pne2, e_zeq1, e_zeq2, e_zne1, e_zne2, e_feq1, e_fne1, e_feq2, e_fne2, e_seq, e_sne, e_ta1, e_ta2, Nat.zero_add, Nat.add_zero, Bool.not_true, Bool.not_false]
  refine ld1_r q3 rfl ?_
  unfold joR at hK
  have hat : ∃ a : Nat, q.at' = a := ⟨q.at'.toNat, by omega⟩
  obtain ⟨a, hat⟩ := hat
  rw [hat] at hK ⊢
  refine join_ok (a := a) cv s3.en.tb s3.en.li (by omega) fun w4 M4 rob4 lobs4 hx4 hk4 ho4 tb4 li4 => ?_
  have s4 := s3.tl hx4 hk4 ho4 tb4 li4
  have q4 := hk4.row q3 (s3.nTL (.inl (.inr rfl)))
  have p4 := hk4.row p3 (s3.nTL (.inr rfl))
  generalize tJoin C (a : Nat) q.cl q.sz σ.rs σ.ls = j at hK s4 ⊢
  simp only [ex3_0, ex3_1, ex3_2, and_self]
  unfold s212_p1
  simp only [nei, e_fd, e_nck, e_pkt, e_pkf, e_gdtt, e_gdtf, e_gdft, e_gdff, e_ift, e_iff, e_not, e_ln, e_lnT, e_cp, e_cvi, e_ex20, e_ex21, e_ex30, e_ex31, e_ex32, e_add, e_sub, e_mul, e_quo, e_rem, e_and, e_or, e_xor, e_shl, e_shr, e_eql, e_neq, e_lss, e_leq, e_gtr, e_geq, e_beq, e_bne, e_peq1, e_peq2, e_pne1, e_pne2, e_zeq1, e_zeq2, e_zne1, e_zne2, e_feq1, e_fne1, e_feq2, e_fne2, e_seq, e_sne, e_ta1, e_ta2, Nat.zero_add, Nat.add_zero, Bool.not_true, Bool.not_false]
  by_cases hc0 : j.code = 0
  · rw [if_pos hc0] at hK
    simp only [hc0, decide_true, Bool.not_true, e_fd, e_nck, e_pkt, e_pkf, e_gdtt, e_gdtf, e_gdft, e_gdff, e_ift, e_iff, e_not, e_ln, e_lnT, e_cp, e_cvi, e_ex20, e_ex21, e_ex30, e_ex31, e_ex32, e_add, e_sub, e_mul, e_quo, e_rem, e_and, e_or, e_xor, e_shl, e_shr, e_eql, e_neq, e_lss, e_leq, e_gtr, e_geq, e_beq, e_bne, e_peq1, e_peq2, e_pne1, e_pne2, e_zeq1, e_zeq2, e_zne1, e_zne2, e_feq1, e_fne1, e_feq2, e_fne2, e_seq, e_sne, e_ta1, e_ta2, Nat.zero_add, Nat.add_zero, Bool.not_true, Bool.not_false]
    refine ld1_r q4 rfl ?_
    refine bdq_r (l := ({ rp0 with op := q.op, id := j.id, pos := j.place } : Rp).cells nilS nilS nilS) rfl ?_
    refine stn_r (cs := ({ rp0 with op := q.op, id := j.id, pos := j.place } : Rp).cells nilS nilS nilS) p4 rfl (show 0 + 34 ≤ 34 by decide) (Rp.sc rfl rfl rfl) fun w5 r5 hk5 hz5 => ?_
    replace r5 : Row w5 w1.heap.size 94 (({ rp0 with op := q.op, id := j.id, pos := j.place } : Rp).cells nilS nilS nilS) := r5
    refine ldn_r r5 (show 0 + 34 ≤ 34 by decide) ?_
    exact (s4.wr hk5 fun b (q : b = _) => .inr q).done hK
  · rw [if_neg hc0] at hK
    simp only [hc0, decide_false, Bool.not_false, e_fd, e_nck, e_pkt, e_pkf, e_gdtt, e_gdtf, e_gdft, e_gdff, e_ift, e_iff, e_not, e_ln, e_lnT, e_cp, e_cvi, e_ex20, e_ex21, e_ex30, e_ex31, e_ex32, e_add, e_sub, e_mul, e_quo, e_rem, e_and, e_or, e_xor, e_shl, e_shr, e_eql, e_neq, e_lss, e_leq, e_gtr, e_geq, e_beq, e_bne, e_peq1, e_peq2, e_pne1, e_pne2, e_zeq1, e_zeq2, e_zne1, e_zne2, e_feq1, e_fne1, e_feq2, e_fne2, e_seq, e_sne, e_ta1, e_ta2, Nat.zero_add, Nat.add_zero, Bool.not_true, Bool.not_false]
    refine refusal_ok fun w5 hk5 => ?_
    refine stn_r (cs := (rf j.code).cells nilS nilS nilS) (hk5.row' p4) rfl (show 0 + 34 ≤ 34 by decide) (Rp.sc rfl rfl rfl) fun w6 r6 hk6 hz6 => ?_
    replace r6 : Row w6 w1.heap.size 94 ((rf j.code).cells nilS nilS nilS) := r6
    refine ldn_r r6 (show 0 + 34 ≤ 34 by decide) ?_
    exact ((s4.emp hk5).wr hk6 fun b (q : b = _) => .inr q).done hK
set_option maxHeartbeats 1000000 in
theorem tickE_ok (cv : CV C) (g : Gd C σ.seq σ.now σ.rs σ.ls) (h : En M w e m C σ J) (hsc : scal lv = true)
    (hK : EnK M w e m C (tkS C σ) J fun w' m' => ∀ l, Rv (Fb w e w' m') w' l (tkR C q σ) → K (.agg l.toArray) w') : cl Tryz.prog 215 #[P e 0, .agg (q.cells lv).toArray] K w := by
  have hn := g.now
  have mc := cv.mc.2
  apply c215
  unfold s215_p7
  refine nw_r fun w1 r1 hk1 hz1 => ?_
  replace r1 : Row w1 w.heap.size 52 (q.cells lv) := r1
  refine nw_r fun w2 r2 hk2 hz2 => ?_
  replace r2 : Row w2 w1.heap.size 94 (rp0.cells nilS nilS nilS) := r2
  have r12 := hk2.row' r1
  have s2 := (((Es.start h).new hk1 (Nat.le_refl _) (by omega)).new hk2 (Nat.le_refl _) (by omega))
  unfold s215_p6 s215_p6_d
  have kd : Kp Emp w2 (drw w2) := kp_drw
  have szd : (drw w2).heap.size = w2.heap.size := rfl
  generalize drw w2 = w3 at kd szd ⊢
  have s3 := s2.emp kd
  obtain ⟨va, vt, env, re⟩ := s3.row
  have q3 := kd.row' r12
  have p3 := kd.row' r2
  try simp only [e_fd, e_nck, e_pkt, e_pkf, e_gdtt, e_gdtf, e_gdft, e_gdff, e_ift, e_iff, e_not, e_ln, e_lnT, e_cp, e_cvi, e_ex20, e_ex21, e_ex30, e_ex31, e_ex32, e_add, e_sub, e_mul, e_quo, e_rem, e_and, e_or, e_xor, e_shl, e_shr, e_eql, e_neq, e_lss, e_leq, e_gtr, e_geq, e_beq, e_bne, e_peq1, e_peq2, e_pne1, e_pne2, e_zeq1, e_zeq2, e_zne1, e_zne2, e_feq1, e_fne1, e_feq2, e_fne2, e_seq, e_sne, e_ta1, e_ta2, Nat.zero_add, Nat.add_zero, Bool.not_true, Bool.not_false]
  refine ld1_r re rfl ?_
  try simp only [e_fd, e_nck, e_pkt, e_pkf, e_gdtt, e_gdtf, e_gdft, e_gdff, e_ift, e_iff, e_not, e_ln, e_lnT, e_cp, e_cvi, e_ex20, e_ex21, e_ex30, e_ex31, e_ex32, e_add, e_sub, e_mul, e_quo, e_rem, e_and, e_or, e_xor, e_shl, e_shr, e_eql, e_neq, e_lss, e_leq, e_gtr, e_geq, e_beq, e_bne, e_peq1, e_peq2, e_pne1, e_pne2, e_zeq1, e_zeq2, e_zne1, e_zne2, e_feq1, e_fne1, e_feq2, e_fne2, e_seq, e_sne, e_ta1, e_ta2, Nat.zero_add, Nat.add_zero, Bool.not_true, Bool.not_false]
  refine ld1_r re rfl ?_
  try simp only [e_fd, e_nck, e_pkt, e_pkf, e_gdtt, e_gdtf, e_gdft, e_gdff, e_ift, e_iff, e_not, e_ln, e_lnT, e_cp, e_cvi, e_ex20, e_ex21, e_ex30, e_ex31, e_ex32, e_add, e_sub, e_mul, e_quo, e_rem, e_and, e_or, e_xor, e_shl, e_shr, e_eql, e_neq, e_lss, e_leq, e_gtr, e_geq, e_beq, e_bne, e_peq1, e_peq2, e_pne1, e_pne2, e_zeq1, e_zeq2, e_zne1, e_zne2, e_feq1, e_fne1, e_feq2, e_fne2, e_seq, e_sne, e_ta1, e_ta2, Nat.zero_add, Nat.add_zero, Bool.not_true, Bool.not_false]
  unfold s215_p5
  unfold tkS tkR at hK
  by_cases h1 : C.mc ≤ σ.now
  · rw [if_pos h1, if_pos h1] at hK
    simp only [h1, decide_true, e_fd, e_nck, e_pkt, e_pkf, e_gdtt, e_gdtf, e_gdft, e_gdff, e_ift, e_iff, e_not, e_ln, e_lnT, e_cp, e_cvi, e_ex20, e_ex21, e_ex30, e_ex31, e_ex32, e_add, e_sub, e_mul, e_quo, e_rem, e_and, e_or, e_xor, e_shl, e_shr, e_eql, e_neq, e_lss, e_leq, e_gtr, e_geq, e_beq, e_bne, e_peq1, e_peq2, e_pne1, e_pne2, e_zeq1, e_zeq2, e_zne1, e_zne2, e_feq1, e_fne1, e_feq2, e_fne2, e_seq, e_sne, e_ta1, e_ta2, Nat.zero_add, Nat.add_zero, Bool.not_true, Bool.not_false]
    refine refusal_ok fun w5 hk5 => ?_
    refine stn_r (cs := (rf 11).cells nilS nilS nilS) (hk5.row' p3) rfl (show 0 + 34 ≤ 34 by decide) (Rp.sc rfl rfl rfl) fun w6 r6 hk6 hz6 => ?_
    replace r6 : Row w6 w1.heap.size 94 ((rf 11).cells nilS nilS nilS) := r6
    refine ldn_r r6 (show 0 + 34 ≤ 34 by decide) ?_
    exact ((s3.emp hk5).wr hk6 fun b (q : b = _) => .inr q).done hK _ (Rv.plain rfl rfl rfl rfl)
  · rw [if_neg h1, if_neg h1] at hK
    simp only [h1, decide_false, e_fd, e_nck, e_pkt, e_pkf, e_gdtt, e_gdtf, e_gdft, e_gdff, e_ift, e_iff, e_not, e_ln, e_lnT, e_cp, e_cvi, e_ex20, e_ex21, e_ex30, e_ex31, e_ex32, e_add, e_sub, e_mul, e_quo, e_rem, e_and, e_or, e_xor, e_shl, e_shr, e_eql, e_neq, e_lss, e_leq, e_gtr, e_geq, e_beq, e_bne, e_peq1, e_peq2, e_pne1, e_pne2, e_zeq1, e_zeq2, e_zne1, e_zne2, e_feq1, e_fne1, e_feq2, e_fne2, e_seq, e_sne, e_ta1, e_ta2, Nat.zero_add, Nat.add_zero, Bool.not_true, Bool.not_false]
    refine ld1_r q3 rfl ?_
    refine bdq_r (l := ({ rp0 with op := q.op } : Rp).cells nilS nilS nilS) rfl ?_
    refine nw_r fun w4 r4 hk4 hz4 => ?_
    refine stn_r (cs := ({ rp0 with op := q.op } : Rp).cells nilS nilS nilS) r4 rfl (show 0 + 34 ≤ 34 by decide) (Rp.sc rfl rfl rfl) fun w5 r5 hk5 hz5 => ?_
    replace r5 : Row w5 w3.heap.size 94 (({ rp0 with op := q.op } : Rp).cells nilS nilS nilS) := r5
    have s5 := (s3.new hk4 (Nat.le_refl _) (by omega)).wr hk5 fun b (q : b = _) => .inr q
    have p5 := hk5.row (hk4.row' p3) (show ¬ w1.heap.size = _ by omega)
    unfold s215_p4 s215_p4_d
    have kd5 : Kp Emp w5 (drw w5) := kp_drw
    have szd5 : (drw w5).heap.size = w5.heap.size := rfl
    generalize drw w5 = w6 at kd5 szd5 ⊢
    have s6 := s5.emp kd5
    have p6 := kd5.row' p5
    have r6 := kd5.row' r5
    obtain ⟨va6, vt6, env6, re6⟩ := s6.row
    try simp only [e_fd, e_nck, e_pkt, e_pkf, e_gdtt, e_gdtf, e_gdft, e_gdff, e_ift, e_iff, e_not, e_ln, e_lnT, e_cp, e_cvi, e_ex20, e_ex21, e_ex30, e_ex31, e_ex32, e_add, e_sub, e_mul, e_quo, e_rem, e_and, e_or, e_xor, e_shl, e_shr, e_eql, e_neq, e_lss, e_leq, e_gtr, e_geq, e_beq, e_bne, e_peq1, e_peq2, e_pne1, e_pne2, e_zeq1, e_zeq2, e_zne1, e_zne2, e_feq1, e_fne1, e_feq2, e_fne2, e_seq, e_sne, e_ta1, e_ta2, Nat.zero_add, Nat.add_zero, Bool.not_true, Bool.not_false]
    refine ld1_r re6 rfl ?_
    try simp only [e_fd, e_nck, e_pkt, e_pkf, e_gdtt, e_gdtf, e_gdft, e_gdff, e_ift, e_iff, e_not, e_ln, e_lnT, e_cp, e_cvi, e_ex20, e_ex21, e_ex30, e_ex31, e_ex32, e_add, e_sub, e_mul, e_quo, e_rem, e_and, e_or, e_xor, e_shl, e_shr, e_eql, e_neq, e_lss, e_leq, e_gtr, e_geq, e_beq, e_bne, e_peq1, e_peq2, e_pne1, e_pne2, e_zeq1, e_zeq2, e_zne1, e_zne2, e_feq1, e_fne1, e_feq2, e_fne2, e_seq, e_sne, e_ta1, e_ta2, Nat.zero_add, Nat.add_zero, Bool.not_true, Bool.not_false]
    refine ld1_r re6 rfl ?_
    try simp only [e_fd, e_nck, e_pkt, e_pkf, e_gdtt, e_gdtf, e_gdft, e_gdff, e_ift, e_iff, e_not, e_ln, e_lnT, e_cp, e_cvi, e_ex20, e_ex21, e_ex30, e_ex31, e_ex32, e_add, e_sub, e_mul, e_quo, e_rem, e_and, e_or, e_xor, e_shl, e_shr, e_eql, e_neq, e_lss, e_leq, e_gtr, e_geq, e_beq, e_bne, e_peq1, e_peq2, e_pne1, e_pne2, e_zeq1, e_zeq2, e_zne1, e_zne2, e_feq1, e_fne1, e_feq2, e_fne2, e_seq, e_sne, e_ta1, e_ta2, Nat.zero_add, Nat.add_zero, Bool.not_true, Bool.not_false]
    refine ld1_r re6 rfl ?_
    try simp only [e_fd, e_nck, e_pkt, e_pkf, e_gdtt, e_gdtf, e_gdft, e_gdff, e_ift, e_iff, e_not, e_ln, e_lnT, e_cp, e_cvi, e_ex20, e_ex21, e_ex30, e_ex31, e_ex32, e_add, e_sub, e_mul, e_quo, e_rem, e_and, e_or, e_xor, e_shl, e_shr, e_eql, e_neq, e_lss, e_leq, e_gtr, e_geq, e_beq, e_bne, e_peq1, e_peq2, e_pne1, e_pne2, e_zeq1, e_zeq2, e_zne1, e_zne2, e_feq1, e_fne1, e_feq2, e_fne2, e_seq, e_sne, e_ta1, e_ta2, Nat.zero_add, Nat.add_zero, Bool.not_true, Bool.not_false]
    refine serve_ok cv ⟨hn.1, by omega⟩ s6.en.tb s6.en.li (g.ts cv) fun w7 iv sv7 => ?_
    have gS := g.serve cv
    obtain ⟨M7, rob7, lobs7, ib, hx7, hk7, ho7, tb7, li7, si7, hib, mib⟩ := sv7.ex
    have s7 := s6.tl hx7 hk7 ho7 tb7 li7
    have p7 := hk7.row p6 (s6.nTL (.inl (.inr rfl)))
    have r7 := hk7.row r6 (s6.nTL (.inr rfl))
    have ibne : ib ≠ w3.heap.size := by omega
    generalize hS : tServe C σ.now σ.rs σ.ls = sv at *
    refine st1_r r7 (by simp [Rp.cells, rp0]) (sl_scal si7) fun w8 r8 hk8 hz8 => ?_
    replace r8 : Row w8 w3.heap.size 94 (({ rp0 with op := q.op } : Rp).cells iv nilS nilS) := r8
    have s8 := s7.wr hk8 fun b (q : b = _) => .inr q
    have p8 := hk8.row p7 (show ¬ w1.heap.size = _ by omega)
    have si8 := si7.kp hk8 fun b e (q : b = _) => by cases e; exact ibne q
    unfold s215_p3
    obtain ⟨va8, vt8, env8, re8⟩ := s8.row
    try simp only [e_fd, e_nck, e_pkt, e_pkf, e_gdtt, e_gdtf, e_gdft, e_gdff, e_ift, e_iff, e_not, e_ln, e_lnT, e_cp, e_cvi, e_ex20, e_ex21, e_ex30, e_ex31, e_ex32, e_add, e_sub, e_mul, e_quo, e_rem, e_and, e_or, e_xor, e_shl, e_shr, e_eql, e_neq, e_lss, e_leq, e_gtr, e_geq, e_beq, e_bne, e_peq1, e_peq2, e_pne1, e_pne2, e_zeq1, e_zeq2, e_zne1, e_zne2, e_feq1, e_fne1, e_feq2, e_fne2, e_seq, e_sne, e_ta1, e_ta2, Nat.zero_add, Nat.add_zero, Bool.not_true, Bool.not_false]
    refine ld1_r re8 rfl ?_
    try simp only [e_fd, e_nck, e_pkt, e_pkf, e_gdtt, e_gdtf, e_gdft, e_gdff, e_ift, e_iff, e_not, e_ln, e_lnT, e_cp, e_cvi, e_ex20, e_ex21, e_ex30, e_ex31, e_ex32, e_add, e_sub, e_mul, e_quo, e_rem, e_and, e_or, e_xor, e_shl, e_shr, e_eql, e_neq, e_lss, e_leq, e_gtr, e_geq, e_beq, e_bne, e_peq1, e_peq2, e_pne1, e_pne2, e_zeq1, e_zeq2, e_zne1, e_zne2, e_feq1, e_fne1, e_feq2, e_fne2, e_seq, e_sne, e_ta1, e_ta2, Nat.zero_add, Nat.add_zero, Bool.not_true, Bool.not_false]
    rw [wrap64_id (by omega) (by omega)]
    refine s8.st { σ with rs := sv.rs, ls := sv.ls, now := σ.now + 1 } (by decide) rfl (fun va vt env => rfl) rfl ⟨rfl, rfl⟩ h.rf fun w9 s9 hk9 hz9 => ?_
    obtain ⟨va9, vt9, env9, re9⟩ := s9.row
    have e_r : w3.heap.size ≠ e := s9.nV (.inr rfl) (.inl rfl)
    have e_p : w1.heap.size ≠ e := s9.nV (.inl (.inr rfl)) (.inl rfl)
    have r9 := hk9.row r8 e_r
    have p9 := hk9.row p8 e_p
    have si9 := si8.kp hk9 fun b e2 q2 => by cases e2; exact s8.en.nI si8 (.inl q2)
    try simp only [e_fd, e_nck, e_pkt, e_pkf, e_gdtt, e_gdtf, e_gdft, e_gdff, e_ift, e_iff, e_not, e_ln, e_lnT, e_cp, e_cvi, e_ex20, e_ex21, e_ex30, e_ex31, e_ex32, e_add, e_sub, e_mul, e_quo, e_rem, e_and, e_or, e_xor, e_shl, e_shr, e_eql, e_neq, e_lss, e_leq, e_gtr, e_geq, e_beq, e_bne, e_peq1, e_peq2, e_pne1, e_pne2, e_zeq1, e_zeq2, e_zne1, e_zne2, e_feq1, e_fne1, e_feq2, e_fne2, e_seq, e_sne, e_ta1, e_ta2, Nat.zero_add, Nat.add_zero, Bool.not_true, Bool.not_false]
    refine ld1_r re9 rfl ?_
    try simp only [e_fd, e_nck, e_pkt, e_pkf, e_gdtt, e_gdtf, e_gdft, e_gdff, e_ift, e_iff, e_not, e_ln, e_lnT, e_cp, e_cvi, e_ex20, e_ex21, e_ex30, e_ex31, e_ex32, e_add, e_sub, e_mul, e_quo, e_rem, e_and, e_or, e_xor, e_shl, e_shr, e_eql, e_neq, e_lss, e_leq, e_gtr, e_geq, e_beq, e_bne, e_peq1, e_peq2, e_pne1, e_pne2, e_zeq1, e_zeq2, e_zne1, e_zne2, e_feq1, e_fne1, e_feq2, e_fne2, e_seq, e_sne, e_ta1, e_ta2, Nat.zero_add, Nat.add_zero, Bool.not_true, Bool.not_false]
    refine st1_r r9 (by simp [Rp.cells, rp0]) rfl fun w10 r10 hk10 hz10 => ?_
    replace r10 : Row w10 w3.heap.size 94 (({ rp0 with op := q.op, now := σ.now + 1 } : Rp).cells iv nilS nilS) := r10
    have s10 := s9.wr hk10 fun b (q : b = _) => .inr q
    have p10 := hk10.row p9 (show ¬ w1.heap.size = _ by omega)
    have si10 := si9.kp hk10 fun b e2 (q2 : b = _) => by cases e2; exact ibne q2
    unfold s215_p2 s215_p2_d
    have kd10 : Kp Emp w10 (drw w10) := kp_drw
    generalize drw w10 = w11 at kd10 ⊢
    have s11 := s10.emp kd10
    have p11 := kd10.row' p10
    have r11 := kd10.row' r10
    have si11 := si10.kp' kd10
    obtain ⟨va11, vt11, env11, re11⟩ := s11.row
    try simp only [e_fd, e_nck, e_pkt, e_pkf, e_gdtt, e_gdtf, e_gdft, e_gdff, e_ift, e_iff, e_not, e_ln, e_lnT, e_cp, e_cvi, e_ex20, e_ex21, e_ex30, e_ex31, e_ex32, e_add, e_sub, e_mul, e_quo, e_rem, e_and, e_or, e_xor, e_shl, e_shr, e_eql, e_neq, e_lss, e_leq, e_gtr, e_geq, e_beq, e_bne, e_peq1, e_peq2, e_pne1, e_pne2, e_zeq1, e_zeq2, e_zne1, e_zne2, e_feq1, e_fne1, e_feq2, e_fne2, e_seq, e_sne, e_ta1, e_ta2, Nat.zero_add, Nat.add_zero, Bool.not_true, Bool.not_false]
    refine ld1_r re11 rfl ?_
    try simp only [e_fd, e_nck, e_pkt, e_pkf, e_gdtt, e_gdtf, e_gdft, e_gdff, e_ift, e_iff, e_not, e_ln, e_lnT, e_cp, e_cvi, e_ex20, e_ex21, e_ex30, e_ex31, e_ex32, e_add, e_sub, e_mul, e_quo, e_rem, e_and, e_or, e_xor, e_shl, e_shr, e_eql, e_neq, e_lss, e_leq, e_gtr, e_geq, e_beq, e_bne, e_peq1, e_peq2, e_pne1, e_pne2, e_zeq1, e_zeq2, e_zne1, e_zne2, e_feq1, e_fne1, e_feq2, e_fne2, e_seq, e_sne, e_ta1, e_ta2, Nat.zero_add, Nat.add_zero, Bool.not_true, Bool.not_false]
    refine ld1_r re11 rfl ?_
    try simp only [e_fd, e_nck, e_pkt, e_pkf, e_gdtt, e_gdtf, e_gdft, e_gdff, e_ift, e_iff, e_not, e_ln, e_lnT, e_cp, e_cvi, e_ex20, e_ex21, e_ex30, e_ex31, e_ex32, e_add, e_sub, e_mul, e_quo, e_rem, e_and, e_or, e_xor, e_shl, e_shr, e_eql, e_neq, e_lss, e_leq, e_gtr, e_geq, e_beq, e_bne, e_peq1, e_peq2, e_pne1, e_pne2, e_zeq1, e_zeq2, e_zne1, e_zne2, e_feq1, e_fne1, e_feq2, e_fne2, e_seq, e_sne, e_ta1, e_ta2, Nat.zero_add, Nat.add_zero, Bool.not_true, Bool.not_false]
    refine sweep_ok (now := σ.now + 1) cv (gS.ti cv) s11.en.tb ⟨by omega, by omega⟩ fun w12 M12 rob12 hx12 hk12 ho12 tb12 => ?_
    have s12 := s11.tbl hx12 hk12 ho12 tb12
    have p12 := hk12.row p11 (s11.nT (.inl (.inr rfl)))
    have r12' := hk12.row r11 (s11.nT (.inr rfl))
    have si12 := si11.kp hk12 fun b e2 q2 => by cases e2; exact s11.en.nI si11 (.inr (.inl q2))
    have hil := sv7.il
    simp only [ex3_0, ex3_1, ex3_2, and_self]
    generalize (sv.rs.countP (isE (σ.now + 1)) : Int) = c1 at hK ⊢
    generalize (sv.rs.countP (isS C (σ.now + 1)) : Int) = c2 at hK ⊢
    generalize (sv.rs.countP (isL C (σ.now + 1)) : Int) = c3 at hK ⊢
    refine st1_r r12' (by simp [Rp.cells, rp0]) rfl fun w13 r13 hk13 hz13 => ?_
    refine st1_r r13 (by simp [Rp.cells, rp0]) rfl fun w14 r14 hk14 hz14 => ?_
    refine st1_r r14 (by simp [Rp.cells, rp0]) rfl fun w15 r15 hk15 hz15 => ?_
    replace r15 : Row w15 w3.heap.size 94 (({ rp0 with op := q.op, now := σ.now + 1, exd := c1, ns := c2, lp := c3 } : Rp).cells iv nilS nilS) := r15
    have k15 := (hk13.trans hk14).trans hk15
    have s15 := s12.wr k15 fun b (q : b = _) => .inr q
    have p15 := k15.row p12 (show ¬ w1.heap.size = _ by omega)
    have si15 := si12.kp k15 fun b e2 (q2 : b = _) => by cases e2; exact ibne q2
    unfold s215_p1
    refine ldn_r r15 (show 0 + 34 ≤ 34 by decide) ?_
    refine stn_r (cs := ({ rp0 with op := q.op, now := σ.now + 1, exd := c1, ns := c2, lp := c3 } : Rp).cells iv nilS nilS) p15 rfl (show 0 + 34 ≤ 34 by decide) (Rp.sc (sl_scal si15) rfl rfl) fun w16 r16 hk16 hz16 => ?_
    replace r16 : Row w16 w1.heap.size 94 (({ rp0 with op := q.op, now := σ.now + 1, exd := c1, ns := c2, lp := c3 } : Rp).cells iv nilS nilS) := r16
    refine ldn_r r16 (show 0 + 34 ≤ 34 by decide) ?_
    have s16 := s15.wr hk16 fun b (q : b = _) => .inl (.inr q)
    have si16 := si15.kp hk16 fun b e2 (q2 : b = _) => by cases e2; omega
    refine s16.done hK _ ⟨iv, nilS, nilS, rfl, si16.ar isC2_len (by simp only; omega) fun b e2 => ?_, ⟨[], rfl, Ar.nil, fun p hp => by cases hp⟩, Ar.nil, rfl⟩
    cases e2
    exact ⟨by omega, si16.lt, s16.en.nI si16⟩
end
end Go.Proofs.Qxb6500896aGreat
