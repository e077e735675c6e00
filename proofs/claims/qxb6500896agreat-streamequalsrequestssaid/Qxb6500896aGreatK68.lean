import Derived.Test.Qxb6500896aGreatK67
namespace Go.Proofs.Qxb6500896aGreat
open Go.Sh Go.RowKit
set_option linter.unusedVariables false
set_option linter.unusedSimpArgs false

def qLine (q : Rq) (σ : Sg) : Rp := { rp0 with op := q.op, wt := lnOf σ.ls q.at' }
def qClock (C : Cfg) (q : Rq) (σ : Sg) : Rp := { rp0 with op := q.op, now := σ.now, la := σ.now + C.hz - 1, gr := (σ.rs.length : Nat) }
/-- what a valid question is answered -/
def qR (C : Cfg) (q : Rq) (σ : Sg) : Rp :=
  if q.op = 16 then qGet q σ else if q.op = 17 then qList C q σ else if q.op = 18 then qSlot C q σ else if q.op = 19 then qLine q σ else if q.op = 20 then qClock C q σ
  else if q.op = 21 then qFind C q σ else if q.op = 22 then qQuo C q σ else if q.op = 23 then qCnt q σ else if q.op = 24 then qPlace q σ else rf 1
/-- and how it is counted -/
def ansS (C : Cfg) (q : Rq) (σ : Sg) : Sg × Rp :=
  if (qR C q σ).code = 0 then ({ σ with sq := w1 σ.sq }, qR C q σ) else (refS (qR C q σ).code σ, rf (qR C q σ).code)
section
variable {C : Cfg} {now : Int} {q : Rq}
theorem valid_slot (h : valid C now q = 0) (ho : q.op = 18) : (0 ≤ q.at' ∧ q.at' < ((C.ats.length : Nat) : Int)) ∧ now ≤ q.sl ∧ q.sl - now < C.hz := by
  unfold valid at h
  rw [if_neg (by omega), if_neg (by omega), if_neg (by omega), if_pos ho] at h
  split at h
  · rename_i h1
    split at h
    · rename_i h2
      refine ⟨hasA_1 h1, ?_⟩
      unfold isO at h2
      simpa using h2
    · omega
  · omega
theorem valid_line (h : valid C now q = 0) (ho : q.op = 19) : 0 ≤ q.at' ∧ q.at' < ((C.ats.length : Nat) : Int) := by
  unfold valid at h
  rw [if_neg (by omega), if_neg (by omega), if_neg (by omega), if_neg (by omega), if_pos ho] at h
  split at h
  · rename_i h1; exact hasA_1 h1
  · omega
end
section
variable {F G M0 M M' S V : Nat → Prop} {w w' w0 w1 w4 : World} {v v' rv lv iv va vt env wv : Value} {l l0 : List Value} {n wb e t b c pb j : Nat} {C : Cfg} {K : Value → World → Prop} {m0 m m' m4 : Me} {σ σ' : Sg} {J J' : Jr} {q : Rq} {p : Rp} {x : List Int} {lob : Option Nat}
set_option maxHeartbeats 2000000 in
theorem ansE_ok (cv : CV C) (g : SGd C σ) (h : En M w e m C σ J) (hq : Qv F w l q) (hN : XprN q) (hv : valid C σ.now q = 0)
    (hK : EnK M w e m C (ansS C q σ).1 J fun w' m' => ∀ l, Rv (Fb w e w' m') w' l (ansS C q σ).2 → K (.agg l.toArray) w') : cl Tryz.prog 185 #[P e 0, .agg l.toArray] K w := by
  obtain ⟨lv, rfl, hl⟩ := hq
  have hsc := hl.scal
  have hn := g.now
  have mc := cv.mc.2
  have hz := cv.hz
  have tl := h.tb.len
  apply c185
  unfold s185_p18
  refine nw_r fun w1 r1 hk1 hz1 => ?_
  replace r1 : Row w1 w.heap.size 52 (q.cells lv) := r1
  refine nw_r fun w2 r2 hk2 hz2 => ?_
  replace r2 : Row w2 w1.heap.size 94 (rp0.cells nilS nilS nilS) := r2
  refine nw_r fun w3 r3 hk3 hz3 => ?_
  replace r3 : Row w3 w2.heap.size 94 (rp0.cells nilS nilS nilS) := r3
  have q3 := (hk2.trans hk3).row' r1
  have p3 := hk3.row' r2
  have k3 := (hk1.trans hk2).trans hk3
  have s3 := ((((Es.start h).new hk1 (Nat.le_refl _) (by omega)).new hk2 (Nat.le_refl _) (by omega)).new hk3 (Nat.le_refl _) (by omega))
  have hl3 := hl.kp' k3
  refine fdp ?_
  refine ld1_r q3 rfl ?_
  have o1 : ∀ {x : Int}, (q.op == x) = true → q.op = x := fun q => by simpa using q
  have o0 : ∀ {x : Int}, (q.op == x) = false → q.op ≠ x := fun q => by simpa using q
  have ldq : ∀ {w' : World} {X : Value → World → Prop}, Row w' w.heap.size 52 (q.cells lv) → X (.agg (q.cells lv).toArray) w' → ldn 8 (P w.heap.size 0) X w' := fun r hX => ldn_r r (show 0 + 8 ≤ 8 by decide) hX
  unfold ansS at hK
  -- the answer lies in its variable
  have fin : ∀ {w4 w5 : World} {l : List Value} {p : Rp}, qR C q σ = p → Kp Emp w3 w4 → Rv (Nb w3 w4) w4 l p → stn 34 (P w2.heap.size 0) (.agg l.toArray) (fun w => s185_p1 K (P e 0) (P w1.heap.size 0) (P w2.heap.size 0) w) w4 := by
    intro w4 w5 l p hp hk4 rv
    rw [hp] at hK
    have hlen := rv.len
    have hss := rv.sc
    have s4 := s3.emp hk4
    have sz4 := hk4.size
    refine stn_r (cs := l) (hk4.row' r3) hlen (show 0 + 34 ≤ 34 by decide) hss fun w6 r6 hk6 hz6 => ?_
    rw [List.take_zero, List.nil_append, Nat.zero_add, List.drop_of_length_le (by decide), List.append_nil] at r6
    have s6 := s4.wr hk6 fun b (q : b = _) => .inr q
    have p6 := hk6.row (hk4.row' p3) (show ¬ w1.heap.size = _ by omega)
    have rv6 := rv.kp hk6 fun b hb (q : b = _) => by have := hb.1; omega
    obtain ⟨iv, rvv, wv, el, _⟩ := rv
    have e0 : l[0]? = some (I p.code) := by rw [el]; rfl
    have e34 : ((l.drop 0).take 34) = l := by rw [List.drop_zero, List.take_of_length_le (by omega)]
    unfold s185_p1
    try simp only [e_fd, e_nck, e_pkt, e_pkf, e_gdtt, e_gdtf, e_gdft, e_gdff, e_ift, e_iff, e_not, e_ln, e_lnT, e_cp, e_cvi, e_ex20, e_ex21, e_ex30, e_ex31, e_ex32, e_add, e_sub, e_mul, e_quo, e_rem, e_and, e_or, e_xor, e_shl, e_shr, e_eql, e_neq, e_lss, e_leq, e_gtr, e_geq, e_beq, e_bne, e_peq1, e_peq2, e_pne1, e_pne2, e_zeq1, e_zeq2, e_zne1, e_zne2, e_feq1, e_fne1, e_feq2, e_fne2, e_seq, e_sne, e_ta1, e_ta2, Nat.zero_add, Nat.add_zero, Bool.not_true, Bool.not_false]
    refine ld1_r r6 e0 ?_
    simp only [nei, e_fd, e_nck, e_pkt, e_pkf, e_gdtt, e_gdtf, e_gdft, e_gdff, e_ift, e_iff, e_not, e_ln, e_lnT, e_cp, e_cvi, e_ex20, e_ex21, e_ex30, e_ex31, e_ex32, e_add, e_sub, e_mul, e_quo, e_rem, e_and, e_or, e_xor, e_shl, e_shr, e_eql, e_neq, e_lss, e_leq, e_gtr, e_geq, e_beq, e_bne, e_peq1, e_peq2, e_pne1, e_pne2, e_zeq1, e_zeq2, e_zne1, e_zne2, e_feq1, e_fne1, e_feq2, e_fne2, e_seq, e_sne, e_ta1, e_ta2, Nat.zero_add, Nat.add_zero, Bool.not_true, Bool.not_false]
    by_cases h0 : p.code = 0
    · rw [if_pos h0] at hK
      simp only [h0, decide_true, Bool.not_true, e_fd, e_nck, e_pkt, e_pkf, e_gdtt, e_gdtf, e_gdft, e_gdff, e_ift, e_iff, e_not, e_ln, e_lnT, e_cp, e_cvi, e_ex20, e_ex21, e_ex30, e_ex31, e_ex32, e_add, e_sub, e_mul, e_quo, e_rem, e_and, e_or, e_xor, e_shl, e_shr, e_eql, e_neq, e_lss, e_leq, e_gtr, e_geq, e_beq, e_bne, e_peq1, e_peq2, e_pne1, e_pne2, e_zeq1, e_zeq2, e_zne1, e_zne2, e_feq1, e_fne1, e_feq2, e_fne2, e_seq, e_sne, e_ta1, e_ta2, Nat.zero_add, Nat.add_zero, Bool.not_true, Bool.not_false]
      obtain ⟨va6, vt6, env6, re6⟩ := s6.row
      refine ld1_r re6 rfl ?_
      try simp only [e_fd, e_nck, e_pkt, e_pkf, e_gdtt, e_gdtf, e_gdft, e_gdff, e_ift, e_iff, e_not, e_ln, e_lnT, e_cp, e_cvi, e_ex20, e_ex21, e_ex30, e_ex31, e_ex32, e_add, e_sub, e_mul, e_quo, e_rem, e_and, e_or, e_xor, e_shl, e_shr, e_eql, e_neq, e_lss, e_leq, e_gtr, e_geq, e_beq, e_bne, e_peq1, e_peq2, e_pne1, e_pne2, e_zeq1, e_zeq2, e_zne1, e_zne2, e_feq1, e_fne1, e_feq2, e_fne2, e_seq, e_sne, e_ta1, e_ta2, Nat.zero_add, Nat.add_zero, Bool.not_true, Bool.not_false]
      refine s6.st { σ with sq := Go.Proofs.Qxb6500896aGreat.w1 σ.sq } (by decide) rfl (fun va vt env => rfl) rfl ⟨rfl, rfl⟩ h.rf fun w7 s7 hk7 hz7 => ?_
      have r7 := hk7.row r6 (s6.nV (.inr rfl) (.inl rfl))
      have p7 := hk7.row p6 (s6.nV (.inl (.inr rfl)) (.inl rfl))
      have elt := h.lt e h.me
      have rv7 := rv6.kp hk7 fun b hb (q : b = _) => by have := hb.1; omega
      refine ldn_r r7 (by omega) ?_
      rw [e34]
      refine rep_end p7 rfl hlen hss fun w8 hk8 hz8 => ?_
      have s8 := s7.wr hk8 fun b (q : b = _) => .inl (.inr q)
      refine s8.done hK _ ((rv7.kp hk8 fun b hb (q : b = _) => by have := hb.1; omega).mono fun b hb => ⟨by have := hb.1; omega, by have := hb.2; omega, fun q => ?_⟩)
      have := h.lt b (h.own q)
      have := hb.1
      omega
    · rw [if_neg h0] at hK
      simp only [h0, decide_false, Bool.not_false, e_fd, e_nck, e_pkt, e_pkf, e_gdtt, e_gdtf, e_gdft, e_gdff, e_ift, e_iff, e_not, e_ln, e_lnT, e_cp, e_cvi, e_ex20, e_ex21, e_ex30, e_ex31, e_ex32, e_add, e_sub, e_mul, e_quo, e_rem, e_and, e_or, e_xor, e_shl, e_shr, e_eql, e_neq, e_lss, e_leq, e_gtr, e_geq, e_beq, e_bne, e_peq1, e_peq2, e_pne1, e_pne2, e_zeq1, e_zeq2, e_zne1, e_zne2, e_feq1, e_fne1, e_feq2, e_fne2, e_seq, e_sne, e_ta1, e_ta2, Nat.zero_add, Nat.add_zero, Bool.not_true, Bool.not_false]
      refine ld1_r r6 e0 ?_
      refine refuse_ok s6.en (s6.step fun w7 M7 m7 s7 hk7 hm7 => ?_)
      have p7 := hk7.row p6 (s6.v _ (.inl (.inr rfl))).2.1
      refine rep_end p7 rfl rfl (Rp.sc rfl rfl rfl) fun w8 hk8 hz8 => ?_
      have s8 := s7.wr hk8 fun b (q : b = _) => .inl (.inr q)
      exact s8.done hK _ (Rv.plain rfl rfl rfl rfl)
  have fin' : ∀ {p : Rp}, qR C q σ = p → QK w3 p (fun t w => stn 34 (P w2.heap.size 0) t (fun w => s185_p1 K (P e 0) (P w1.heap.size 0) (P w2.heap.size 0) w) w) := fun hp w4 l hk4 rv4 => fin (w5 := w) hp hk4 rv4
  have e3 := s3.en
  unfold qR at fin'
  unfold s185_p17
  cases c1 : (q.op == 16) with
  | true =>
    refine sw_yes c1 ?_
    unfold s185_p2
    refine ldq q3 ?_
    exact getE_ok e3 g.rn hN.id hsc (fin' (by rw [if_pos (o1 c1)]))
  | false =>
  refine sw_no c1 ?_
  have n1 := o0 c1
  unfold s185_p15
  cases c2 : (q.op == 17) with
  | true =>
    refine sw_yes c2 ?_
    have n2 := o1 c2
    unfold s185_p3
    refine ldq q3 ?_
    exact listE_ok cv e3 g.rn hN.id hN.li hsc (fin' (by rw [if_neg n1, if_pos n2]))
  | false =>
  refine sw_no c2 ?_
  have n2 := o0 c2
  unfold s185_p13
  cases c3 : (q.op == 18) with
  | true =>
    refine sw_yes c3 ?_
    have n3 := o1 c3
    obtain ⟨v1, v2, v3⟩ := valid_slot hv n3
    obtain ⟨a, ha⟩ : ∃ a : Nat, q.at' = a := ⟨q.at'.toNat, by omega⟩
    unfold s185_p4
    refine ldq q3 ?_
    exact slotE_ok cv g e3 ha (by omega) ⟨by omega, by omega⟩ hsc (fin' (by rw [if_neg n1, if_neg n2, if_pos n3]))
  | false =>
  refine sw_no c3 ?_
  have n3 := o0 c3
  unfold s185_p11
  cases c4 : (q.op == 19) with
  | true =>
    refine sw_yes c4 ?_
    have n4 := o1 c4
    have v1 := valid_line hv n4
    obtain ⟨a, ha⟩ : ∃ a : Nat, q.at' = a := ⟨q.at'.toNat, by omega⟩
    have hal : a < σ.ls.length := by have := g.li.len; omega
    have eq2 : (q.cells lv)[2]? = some (I (a : Nat)) := by rw [← ha]; rfl
    unfold s185_p5 s185_p5_d
    have kd : Kp Emp w3 (drw w3) := kp_drw
    have szd : (drw w3).heap.size = w3.heap.size := rfl
    generalize drw w3 = w4 at kd szd ⊢
    obtain ⟨va4, vt4, env4, re4, _⟩ := (e3.kp' kd).ex
    try simp only [e_fd, e_nck, e_pkt, e_pkf, e_gdtt, e_gdtf, e_gdft, e_gdff, e_ift, e_iff, e_not, e_ln, e_lnT, e_cp, e_cvi, e_ex20, e_ex21, e_ex30, e_ex31, e_ex32, e_add, e_sub, e_mul, e_quo, e_rem, e_and, e_or, e_xor, e_shl, e_shr, e_eql, e_neq, e_lss, e_leq, e_gtr, e_geq, e_beq, e_bne, e_peq1, e_peq2, e_pne1, e_pne2, e_zeq1, e_zeq2, e_zne1, e_zne2, e_feq1, e_fne1, e_feq2, e_fne2, e_seq, e_sne, e_ta1, e_ta2, Nat.zero_add, Nat.add_zero, Bool.not_true, Bool.not_false]
    refine ld1_r (kd.row' q3) rfl ?_
    try simp only [e_fd, e_nck, e_pkt, e_pkf, e_gdtt, e_gdtf, e_gdft, e_gdff, e_ift, e_iff, e_not, e_ln, e_lnT, e_cp, e_cvi, e_ex20, e_ex21, e_ex30, e_ex31, e_ex32, e_add, e_sub, e_mul, e_quo, e_rem, e_and, e_or, e_xor, e_shl, e_shr, e_eql, e_neq, e_lss, e_leq, e_gtr, e_geq, e_beq, e_bne, e_peq1, e_peq2, e_pne1, e_pne2, e_zeq1, e_zeq2, e_zne1, e_zne2, e_feq1, e_fne1, e_feq2, e_fne2, e_seq, e_sne, e_ta1, e_ta2, Nat.zero_add, Nat.add_zero, Bool.not_true, Bool.not_false]
    refine ld1_r re4 rfl ?_
    try simp only [e_fd, e_nck, e_pkt, e_pkf, e_gdtt, e_gdtf, e_gdft, e_gdff, e_ift, e_iff, e_not, e_ln, e_lnT, e_cp, e_cvi, e_ex20, e_ex21, e_ex30, e_ex31, e_ex32, e_add, e_sub, e_mul, e_quo, e_rem, e_and, e_or, e_xor, e_shl, e_shr, e_eql, e_neq, e_lss, e_leq, e_gtr, e_geq, e_beq, e_bne, e_peq1, e_peq2, e_pne1, e_pne2, e_zeq1, e_zeq2, e_zne1, e_zne2, e_feq1, e_fne1, e_feq2, e_fne2, e_seq, e_sne, e_ta1, e_ta2, Nat.zero_add, Nat.add_zero, Bool.not_true, Bool.not_false]
    refine ld1_r (kd.row' q3) eq2 ?_
    refine line_ok (e3.kp' kd).li hal fun w5 v5 b5 s5 hb5 hk5 => ⟨hk5.below', ?_⟩
    have lm := g.li.mx _ (List.getElem_mem hal)
    have mx := cv.mx
    have ae5 := s5.ar iC_len (F := Nb w3 w5) (by omega) (fun b e => by cases e; exact ⟨by have := hb5.1; omega, hb5.2⟩)
    obtain ⟨aa, cap, rfl⟩ := ae5.form
    refine bdq_r (l := (qLine q σ).cells nilS nilS (.slice aa σ.ls[a].length cap)) rfl ?_
    refine fin (w5 := w) (p := qLine q σ) (by unfold qR; rw [if_neg n1, if_neg n2, if_neg n3, if_pos n4]) (kd.trans hk5) ⟨nilS, nilS, _, rfl, Ar.nil, ⟨[], rfl, Ar.nil, fun p hp => by cases hp⟩, ?_, rfl⟩
    show Ar iC 1 (Nb w3 w5) w5 _ (lnOf σ.ls q.at')
    rw [ha, lnOf_at hal]
    exact ae5
  | false =>
  refine sw_no c4 ?_
  have n4 := o0 c4
  unfold s185_p9
  cases c5 : (q.op == 20) with
  | true =>
    refine sw_yes c5 ?_
    have n5 := o1 c5
    unfold s185_p6 s185_p6_d
    have kd : Kp Emp w3 (drw w3) := kp_drw
    generalize drw w3 = w4 at kd ⊢
    obtain ⟨va4, vt4, env4, re4, _⟩ := (e3.kp' kd).ex
    try simp only [e_fd, e_nck, e_pkt, e_pkf, e_gdtt, e_gdtf, e_gdft, e_gdff, e_ift, e_iff, e_not, e_ln, e_lnT, e_cp, e_cvi, e_ex20, e_ex21, e_ex30, e_ex31, e_ex32, e_add, e_sub, e_mul, e_quo, e_rem, e_and, e_or, e_xor, e_shl, e_shr, e_eql, e_neq, e_lss, e_leq, e_gtr, e_geq, e_beq, e_bne, e_peq1, e_peq2, e_pne1, e_pne2, e_zeq1, e_zeq2, e_zne1, e_zne2, e_feq1, e_fne1, e_feq2, e_fne2, e_seq, e_sne, e_ta1, e_ta2, Nat.zero_add, Nat.add_zero, Bool.not_true, Bool.not_false]
    refine ld1_r (kd.row' q3) rfl ?_
    try simp only [e_fd, e_nck, e_pkt, e_pkf, e_gdtt, e_gdtf, e_gdft, e_gdff, e_ift, e_iff, e_not, e_ln, e_lnT, e_cp, e_cvi, e_ex20, e_ex21, e_ex30, e_ex31, e_ex32, e_add, e_sub, e_mul, e_quo, e_rem, e_and, e_or, e_xor, e_shl, e_shr, e_eql, e_neq, e_lss, e_leq, e_gtr, e_geq, e_beq, e_bne, e_peq1, e_peq2, e_pne1, e_pne2, e_zeq1, e_zeq2, e_zne1, e_zne2, e_feq1, e_fne1, e_feq2, e_fne2, e_seq, e_sne, e_ta1, e_ta2, Nat.zero_add, Nat.add_zero, Bool.not_true, Bool.not_false]
    refine ld1_r re4 rfl ?_
    try simp only [e_fd, e_nck, e_pkt, e_pkf, e_gdtt, e_gdtf, e_gdft, e_gdff, e_ift, e_iff, e_not, e_ln, e_lnT, e_cp, e_cvi, e_ex20, e_ex21, e_ex30, e_ex31, e_ex32, e_add, e_sub, e_mul, e_quo, e_rem, e_and, e_or, e_xor, e_shl, e_shr, e_eql, e_neq, e_lss, e_leq, e_gtr, e_geq, e_beq, e_bne, e_peq1, e_peq2, e_pne1, e_pne2, e_zeq1, e_zeq2, e_zne1, e_zne2, e_feq1, e_fne1, e_feq2, e_fne2, e_seq, e_sne, e_ta1, e_ta2, Nat.zero_add, Nat.add_zero, Bool.not_true, Bool.not_false]
    refine ld1_r re4 rfl ?_
    try simp only [e_fd, e_nck, e_pkt, e_pkf, e_gdtt, e_gdtf, e_gdft, e_gdff, e_ift, e_iff, e_not, e_ln, e_lnT, e_cp, e_cvi, e_ex20, e_ex21, e_ex30, e_ex31, e_ex32, e_add, e_sub, e_mul, e_quo, e_rem, e_and, e_or, e_xor, e_shl, e_shr, e_eql, e_neq, e_lss, e_leq, e_gtr, e_geq, e_beq, e_bne, e_peq1, e_peq2, e_pne1, e_pne2, e_zeq1, e_zeq2, e_zne1, e_zne2, e_feq1, e_fne1, e_feq2, e_fne2, e_seq, e_sne, e_ta1, e_ta2, Nat.zero_add, Nat.add_zero, Bool.not_true, Bool.not_false]
    refine ld1_r re4 rfl ?_
    try simp only [e_fd, e_nck, e_pkt, e_pkf, e_gdtt, e_gdtf, e_gdft, e_gdff, e_ift, e_iff, e_not, e_ln, e_lnT, e_cp, e_cvi, e_ex20, e_ex21, e_ex30, e_ex31, e_ex32, e_add, e_sub, e_mul, e_quo, e_rem, e_and, e_or, e_xor, e_shl, e_shr, e_eql, e_neq, e_lss, e_leq, e_gtr, e_geq, e_beq, e_bne, e_peq1, e_peq2, e_pne1, e_pne2, e_zeq1, e_zeq2, e_zne1, e_zne2, e_feq1, e_fne1, e_feq2, e_fne2, e_seq, e_sne, e_ta1, e_ta2, Nat.zero_add, Nat.add_zero, Bool.not_true, Bool.not_false]
    rw [wrap64_id (n := σ.now + C.hz) (by omega) (by omega), wrap64_id (by omega) (by omega)]
    refine ld1_r re4 rfl ?_
    refine len_ok (e3.kp' kd).tb ⟨(Kp.refl _ _).below', ?_⟩
    refine bdq_r (l := (qClock C q σ).cells nilS nilS nilS) rfl ?_
    exact fin (w5 := w) (p := qClock C q σ) (by unfold qR; rw [if_neg n1, if_neg n2, if_neg n3, if_neg n4, if_pos n5]) kd (Rv.plain rfl rfl rfl rfl)
  | false =>
  refine sw_no c5 ?_
  have n5 := o0 c5
  unfold s185_p7
  cases c6 : (q.op == 21) with
  | true =>
    refine sw_yes c6 ?_
    have n6 := o1 c6
    obtain ⟨v1, v2, v3⟩ := valid_join hv (.inr n6)
    obtain ⟨a, ha⟩ : ∃ a : Nat, q.at' = a := ⟨q.at'.toNat, by omega⟩
    refine ldq q3 ?_
    exact findE_ok cv g e3 ha (by omega) v2 v3 hN.sl hsc (fin' (by rw [if_neg n1, if_neg n2, if_neg n3, if_neg n4, if_neg n5, if_pos n6]))
  | false =>
  refine sw_no c6 ?_
  have n6 := o0 c6
  cases c7 : (q.op == 22) with
  | true =>
    refine sw_yes c7 ?_
    have n7 := o1 c7
    obtain ⟨⟨v1, v2⟩, v3⟩ := valid_hold hv (.inr n7)
    refine ldq q3 ?_
    exact quoteE_ok cv g e3 hl3 v3 v1 v2 (fin' (by rw [if_neg n1, if_neg n2, if_neg n3, if_neg n4, if_neg n5, if_neg n6, if_pos n7]))
  | false =>
  refine sw_no c7 ?_
  have n7 := o0 c7
  cases c8 : (q.op == 23) with
  | true =>
    refine sw_yes c8 ?_
    have n8 := o1 c8
    refine ldq q3 ?_
    exact countE_ok g e3 hsc (fin' (by rw [if_neg n1, if_neg n2, if_neg n3, if_neg n4, if_neg n5, if_neg n6, if_neg n7, if_pos n8]))
  | false =>
  refine sw_no c8 ?_
  have n8 := o0 c8
  cases c9 : (q.op == 24) with
  | true =>
    refine sw_yes c9 ?_
    have n9 := o1 c9
    refine ldq q3 ?_
    exact placeE_ok cv g e3 hN.id hsc (fin' (by rw [if_neg n1, if_neg n2, if_neg n3, if_neg n4, if_neg n5, if_neg n6, if_neg n7, if_neg n8, if_pos n9]))
  | false =>
    refine sw_no c9 ?_
    have n9 := o0 c9
    refine refusal_ok fun w4 hk4 => ?_
    exact fin (w5 := w) (p := rf 1) (by unfold qR; rw [if_neg n1, if_neg n2, if_neg n3, if_neg n4, if_neg n5, if_neg n6, if_neg n7, if_neg n8, if_neg n9]) hk4 (Rv.plain rfl rfl rfl rfl)
end
end Go.Proofs.Qxb6500896aGreat
