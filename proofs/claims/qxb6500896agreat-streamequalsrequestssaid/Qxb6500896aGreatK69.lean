import Derived.Test.Qxb6500896aGreatK68
namespace Go.Proofs.Qxb6500896aGreat
open Go.Sh Go.RowKit
set_option linter.unusedVariables false
set_option linter.unusedSimpArgs false

/-- a request is served but for the commit -/
def stgS (C : Cfg) (q : Rq) (σ : Sg) (J : Jr) : Sg × Jr × Rp :=
  let σ := { σ with sr := w1 σ.sr }
  if σ.down = true then (refS 19 σ, J, rf 19)
  else if xpr q = false then (refS 1 σ, J, rf 1)
  else if valid C σ.now q = 0 then (if isQ q.op = true then ((ansS C q σ).1, J, (ansS C q σ).2) else chgS C q σ J)
  else (refS (valid C σ.now q) σ, J, rf (valid C σ.now q))
/-- a request in bytes -/
def stbS (C : Cfg) (bs : List Int) (σ : Sg) (J : Jr) : Sg × Jr × Rp :=
  if σ.down = true then (refS 19 { σ with sr := w1 σ.sr }, J, rf 19)
  else if (dec bs).2 = 0 then stgS C (dec bs).1 σ J else (refS ((dec bs).2 : Nat) { σ with sr := w1 σ.sr }, J, rf ((dec bs).2 : Nat))
/-- numbers that do not run over -/
structure EB (σ : Sg) : Prop where
  s0 : 0 ≤ σ.seq
  s1 : σ.seq ≤ 1000000000000000000
  t0 : 0 ≤ σ.tail
  t1 : σ.tail ≤ 1000000000000
  l0 : 0 ≤ σ.loose
  l1 : σ.loose ≤ 1000000000000
theorem snapS_tl (C : Cfg) (σ : Sg) (J : Jr) : ((snapS C σ J).1.tail = σ.tail ∨ (snapS C σ J).1.tail = 0) ∧ ((snapS C σ J).1.loose = σ.loose ∨ (snapS C σ J).1.loose = 0) := by
  unfold snapS
  split
  · exact ⟨.inr rfl, .inr rfl⟩
  · split
    · exact ⟨.inl rfl, .inl rfl⟩
    · exact ⟨.inl rfl, .inl rfl⟩
theorem roomS_tl (C : Cfg) (σ : Sg) (J : Jr) (n : Int) : ((roomS C σ J n).1.tail = σ.tail ∨ (roomS C σ J n).1.tail = 0) ∧ ((roomS C σ J n).1.loose = σ.loose ∨ (roomS C σ J n).1.loose = 0) := by
  unfold roomS
  repeat' split
  all_goals first | exact ⟨.inl rfl, .inl rfl⟩ | exact snapS_tl C σ J
section
variable {F G M0 M M' S V : Nat → Prop} {w w' w0 w1 w4 : World} {v v' rv lv iv va vt env wv : Value} {l l0 : List Value} {n wb e t b c pb j : Nat} {C : Cfg} {K : Value → World → Prop} {m0 m m' m4 : Me} {σ σ' : Sg} {J J' : Jr} {q : Rq} {p : Rp} {x bs : List Int} {lob : Option Nat}
/-- the end of a step's answer -/
theorem stg_end {V : Nat → Prop} {w2 w6 : World} {M6 : Nat → Prop} {m6 : Me} {l l0 : List Value} (s6 : Es M w e m C V w6 M6 m6 σ' J') (hV : V pb) (hpb : pb < w2.heap.size) (h2 : w.heap.size ≤ w2.heap.size) (p6 : Row w6 pb 94 l0) (hl0 : l0.length = 34) (rv : Rv (Fb w2 e w6 m6) w6 l p) (hK : EnK M w e m C σ' J' fun w' m' => ∀ l, Rv (Fb w e w' m') w' l p → K (.agg l.toArray) w') :
    stn 34 (P pb 0) (.agg l.toArray) (fun w => ldn 34 (P pb 0) (fun r0 _ => K r0 w) w) w6 := by
  refine rep_end p6 hl0 rv.len rv.sc fun w7 hk7 hz7 => ?_
  exact (s6.wr hk7 fun b (q : b = _) => q ▸ hV).done hK _ ((rv.kp hk7 fun b hb (q : b = _) => by have := hb.1; omega).mono fun b hb => ⟨by have := hb.1; omega, by have := hb.2.1; omega, hb.2.2⟩)
set_option maxHeartbeats 1000000 in
theorem stgE_ok (cv : CV C) (hmb : C.mb ≤ 1000000) (g : σ.down = false → SGd C σ) (eb : EB σ) (h : En M w e m C σ J) (hq : Qv (Im M w) w l q) (hR : RqN q)
    (hK : EnK M w e m C (stgS C q σ J).1 (stgS C q σ J).2.1 fun w' m' => ∀ l, Rv (Fb w e w' m') w' l (stgS C q σ J).2.2 → K (.agg l.toArray) w') : cl Tryz.prog 141 #[P e 0, .agg l.toArray] K w := by
  have hq0 := hq
  obtain ⟨lv, rfl, hl⟩ := hq
  have hsc := hl.scal
  apply c141
  unfold s141_p1
  refine nw_r fun w1 r1 hk1 hz1 => ?_
  replace r1 : Row w1 w.heap.size 52 (q.cells lv) := r1
  refine nw_r fun w2 r2 hk2 hz2 => ?_
  replace r2 : Row w2 w1.heap.size 94 (rp0.cells nilS nilS nilS) := r2
  have q2 := hk2.row' r1
  have k2 := hk1.trans hk2
  have s2 := (((Es.start h).new hk1 (Nat.le_refl _) (by omega)).new hk2 (Nat.le_refl _) (by omega))
  have ldq : ∀ {w' : World} {X : Value → World → Prop}, Row w' w.heap.size 52 (q.cells lv) → X (.agg (q.cells lv).toArray) w' → ldn 8 (P w.heap.size 0) X w' := fun r hX => ldn_r r (show 0 + 8 ≤ 8 by decide) hX
  obtain ⟨va2, vt2, env2, re2⟩ := s2.row
  try simp only [e_fd, e_nck, e_pkt, e_pkf, e_gdtt, e_gdtf, e_gdft, e_gdff, e_ift, e_iff, e_not, e_ln, e_lnT, e_cp, e_cvi, e_ex20, e_ex21, e_ex30, e_ex31, e_ex32, e_add, e_sub, e_mul, e_quo, e_rem, e_and, e_or, e_xor, e_shl, e_shr, e_eql, e_neq, e_lss, e_leq, e_gtr, e_geq, e_beq, e_bne, e_peq1, e_peq2, e_pne1, e_pne2, e_zeq1, e_zeq2, e_zne1, e_zne2, e_feq1, e_fne1, e_feq2, e_fne2, e_seq, e_sne, e_ta1, e_ta2, Nat.zero_add, Nat.add_zero, Bool.not_true, Bool.not_false]
  refine ld1_r re2 rfl ?_
  try simp only [e_fd, e_nck, e_pkt, e_pkf, e_gdtt, e_gdtf, e_gdft, e_gdff, e_ift, e_iff, e_not, e_ln, e_lnT, e_cp, e_cvi, e_ex20, e_ex21, e_ex30, e_ex31, e_ex32, e_add, e_sub, e_mul, e_quo, e_rem, e_and, e_or, e_xor, e_shl, e_shr, e_eql, e_neq, e_lss, e_leq, e_gtr, e_geq, e_beq, e_bne, e_peq1, e_peq2, e_pne1, e_pne2, e_zeq1, e_zeq2, e_zne1, e_zne2, e_feq1, e_fne1, e_feq2, e_fne2, e_seq, e_sne, e_ta1, e_ta2, Nat.zero_add, Nat.add_zero, Bool.not_true, Bool.not_false]
  refine s2.st { σ with sr := Go.Proofs.Qxb6500896aGreat.w1 σ.sr } (by decide) rfl (fun va vt env => rfl) rfl ⟨rfl, rfl⟩ h.rf fun w3 s3 hk3 hz3 => ?_
  have q3 := hk3.row q2 (s2.nV (.inl (.inr rfl)) (.inl rfl))
  have p3 := hk3.row r2 (s2.nV (.inr rfl) (.inl rfl))
  have elt := h.lt e h.me
  obtain ⟨va3, vt3, env3, re3⟩ := s3.row
  try simp only [e_fd, e_nck, e_pkt, e_pkf, e_gdtt, e_gdtf, e_gdft, e_gdff, e_ift, e_iff, e_not, e_ln, e_lnT, e_cp, e_cvi, e_ex20, e_ex21, e_ex30, e_ex31, e_ex32, e_add, e_sub, e_mul, e_quo, e_rem, e_and, e_or, e_xor, e_shl, e_shr, e_eql, e_neq, e_lss, e_leq, e_gtr, e_geq, e_beq, e_bne, e_peq1, e_peq2, e_pne1, e_pne2, e_zeq1, e_zeq2, e_zne1, e_zne2, e_feq1, e_fne1, e_feq2, e_fne2, e_seq, e_sne, e_ta1, e_ta2, Nat.zero_add, Nat.add_zero, Bool.not_true, Bool.not_false]
  refine ld1_r re3 rfl ?_
  unfold stgS at hK
  simp only at hK
  generalize hs' : ({ σ with sr := Go.Proofs.Qxb6500896aGreat.w1 σ.sr } : Sg) = σ1 at *
  have hd1 : σ1.down = σ.down := by rw [← hs']
  have hn1 : σ1.now = σ.now := by rw [← hs']
  rw [← hd1, ← hn1] at hK
  have g1 : σ.down = false → SGd C σ1 := fun q => by rw [← hs']; exact g q
  have eb1 : EB σ1 := by rw [← hs']; exact ⟨eb.s0, eb.s1, eb.t0, eb.t1, eb.l0, eb.l1⟩
  -- a refusal
  have ref : ∀ {code : Int} {w4 : World}, Kp Emp w3 w4 → (EnK M w e m C (refS code σ1) J fun w' m' => ∀ l, Rv (Fb w e w' m') w' l (rf code) → K (.agg l.toArray) w') → cl Tryz.prog 178 #[P e 0, I code] (fun t w => stn 34 (P w1.heap.size 0) t (fun w => ldn 34 (P w1.heap.size 0) (fun r0 _ => K r0 w) w) w) w4 := by
    intro code w4 hk4 hK
    have s4 := s3.emp hk4
    refine refuse_ok s4.en (s4.step fun w5 M5 m5 s5 hk5 hm5 => ?_)
    exact stg_end (w2 := w2) s5 (.inr rfl) (by omega) (by omega) (hk5.row (hk4.row' p3) (s4.v _ (.inr rfl)).2.1) rfl (Rv.plain rfl rfl rfl rfl) hK
  cases hd : σ1.down with
  | true =>
    rw [if_pos hd] at hK
    try simp only [e_fd, e_nck, e_pkt, e_pkf, e_gdtt, e_gdtf, e_gdft, e_gdff, e_ift, e_iff, e_not, e_ln, e_lnT, e_cp, e_cvi, e_ex20, e_ex21, e_ex30, e_ex31, e_ex32, e_add, e_sub, e_mul, e_quo, e_rem, e_and, e_or, e_xor, e_shl, e_shr, e_eql, e_neq, e_lss, e_leq, e_gtr, e_geq, e_beq, e_bne, e_peq1, e_peq2, e_pne1, e_pne2, e_zeq1, e_zeq2, e_zne1, e_zne2, e_feq1, e_fne1, e_feq2, e_fne2, e_seq, e_sne, e_ta1, e_ta2, Nat.zero_add, Nat.add_zero, Bool.not_true, Bool.not_false]
    exact ref (Kp.refl _ _) hK
  | false =>
    rw [if_neg (by rw [hd]; decide)] at hK
    have g1 := g1 (by rw [← hd1]; exact hd)
    try simp only [e_fd, e_nck, e_pkt, e_pkf, e_gdtt, e_gdtf, e_gdft, e_gdff, e_ift, e_iff, e_not, e_ln, e_lnT, e_cp, e_cvi, e_ex20, e_ex21, e_ex30, e_ex31, e_ex32, e_add, e_sub, e_mul, e_quo, e_rem, e_and, e_or, e_xor, e_shl, e_shr, e_eql, e_neq, e_lss, e_leq, e_gtr, e_geq, e_beq, e_bne, e_peq1, e_peq2, e_pne1, e_pne2, e_zeq1, e_zeq2, e_zne1, e_zne2, e_feq1, e_fne1, e_feq2, e_fne2, e_seq, e_sne, e_ta1, e_ta2, Nat.zero_add, Nat.add_zero, Bool.not_true, Bool.not_false]
    refine ldq q3 ?_
    have hl3 : Ar lC 2 (Im M w) w3 lv q.legs := (hl.kp' k2).kp hk3 fun b hb (q : b = _) => hb.1 (q ▸ h.me)
    refine xpr_ok ⟨lv, rfl, hl3⟩ (fun w4 hk4 => ?_)
    cases hx : xpr q with
    | false =>
      rw [if_pos hx] at hK
      simp only [Bool.not_false, e_fd, e_nck, e_pkt, e_pkf, e_gdtt, e_gdtf, e_gdft, e_gdff, e_ift, e_iff, e_not, e_ln, e_lnT, e_cp, e_cvi, e_ex20, e_ex21, e_ex30, e_ex31, e_ex32, e_add, e_sub, e_mul, e_quo, e_rem, e_and, e_or, e_xor, e_shl, e_shr, e_eql, e_neq, e_lss, e_leq, e_gtr, e_geq, e_beq, e_bne, e_peq1, e_peq2, e_pne1, e_pne2, e_zeq1, e_zeq2, e_zne1, e_zne2, e_feq1, e_fne1, e_feq2, e_fne2, e_seq, e_sne, e_ta1, e_ta2, Nat.zero_add, Nat.add_zero, Bool.not_true, Bool.not_false]
      exact ref hk4 hK
    | true =>
      rw [if_neg (by rw [hx]; decide)] at hK
      have hN := xprN hR hx
      simp only [Bool.not_true, e_fd, e_nck, e_pkt, e_pkf, e_gdtt, e_gdtf, e_gdft, e_gdff, e_ift, e_iff, e_not, e_ln, e_lnT, e_cp, e_cvi, e_ex20, e_ex21, e_ex30, e_ex31, e_ex32, e_add, e_sub, e_mul, e_quo, e_rem, e_and, e_or, e_xor, e_shl, e_shr, e_eql, e_neq, e_lss, e_leq, e_gtr, e_geq, e_beq, e_bne, e_peq1, e_peq2, e_pne1, e_pne2, e_zeq1, e_zeq2, e_zne1, e_zne2, e_feq1, e_fne1, e_feq2, e_fne2, e_seq, e_sne, e_ta1, e_ta2, Nat.zero_add, Nat.add_zero, Bool.not_true, Bool.not_false]
      refine ldq (hk4.row' q3) ?_
      have s4 := s3.emp hk4
      refine validate_ok s4.en (by have := g1.now; omega) ⟨lv, rfl, hl3.kp' hk4⟩ hN fun w5 hk5 => ?_
      have s5 := s4.emp hk5
      have k35 := hk4.trans hk5
      have q5 := k35.row' q3
      have p5 := k35.row' p3
      simp only [nei, e_fd, e_nck, e_pkt, e_pkf, e_gdtt, e_gdtf, e_gdft, e_gdff, e_ift, e_iff, e_not, e_ln, e_lnT, e_cp, e_cvi, e_ex20, e_ex21, e_ex30, e_ex31, e_ex32, e_add, e_sub, e_mul, e_quo, e_rem, e_and, e_or, e_xor, e_shl, e_shr, e_eql, e_neq, e_lss, e_leq, e_gtr, e_geq, e_beq, e_bne, e_peq1, e_peq2, e_pne1, e_pne2, e_zeq1, e_zeq2, e_zne1, e_zne2, e_feq1, e_fne1, e_feq2, e_fne2, e_seq, e_sne, e_ta1, e_ta2, Nat.zero_add, Nat.add_zero, Bool.not_true, Bool.not_false]
      by_cases hv : valid C σ1.now q = 0
      · rw [if_pos hv] at hK
        simp only [hv, decide_true, Bool.not_true, e_fd, e_nck, e_pkt, e_pkf, e_gdtt, e_gdtf, e_gdft, e_gdff, e_ift, e_iff, e_not, e_ln, e_lnT, e_cp, e_cvi, e_ex20, e_ex21, e_ex30, e_ex31, e_ex32, e_add, e_sub, e_mul, e_quo, e_rem, e_and, e_or, e_xor, e_shl, e_shr, e_eql, e_neq, e_lss, e_leq, e_gtr, e_geq, e_beq, e_bne, e_peq1, e_peq2, e_pne1, e_pne2, e_zeq1, e_zeq2, e_zne1, e_zne2, e_feq1, e_fne1, e_feq2, e_fne2, e_seq, e_sne, e_ta1, e_ta2, Nat.zero_add, Nat.add_zero, Bool.not_true, Bool.not_false]
        refine ld1_r q5 rfl ?_
        refine isQ_ok ?_
        have hl5 := hl3.kp' k35
        have hM5 : ∀ b, Im M w b → Im (fun b => (M b ∨ b = w.heap.size) ∨ b = w1.heap.size) w5 b := fun b hb => ⟨fun q => by
          rcases q with (q | q) | q
          · exact hb.1 q
          · have := hb.2; omega
          · have := hb.2; omega, by have := hb.2; have := s5.k.size; omega⟩
        have sz35 := k35.size
        cases hq : isQ q.op with
        | true =>
          rw [if_pos hq] at hK
          try simp only [e_fd, e_nck, e_pkt, e_pkf, e_gdtt, e_gdtf, e_gdft, e_gdff, e_ift, e_iff, e_not, e_ln, e_lnT, e_cp, e_cvi, e_ex20, e_ex21, e_ex30, e_ex31, e_ex32, e_add, e_sub, e_mul, e_quo, e_rem, e_and, e_or, e_xor, e_shl, e_shr, e_eql, e_neq, e_lss, e_leq, e_gtr, e_geq, e_beq, e_bne, e_peq1, e_peq2, e_pne1, e_pne2, e_zeq1, e_zeq2, e_zne1, e_zne2, e_feq1, e_fne1, e_feq2, e_fne2, e_seq, e_sne, e_ta1, e_ta2, Nat.zero_add, Nat.add_zero, Bool.not_true, Bool.not_false]
          refine ldq q5 ?_
          refine ansE_ok cv g1 s5.en ⟨lv, rfl, hl5⟩ hN hv (s5.step fun w6 M6 m6 s6 hk6 l6 rv6 => ?_)
          exact stg_end (w2 := w5) s6 (.inr rfl) (by omega) (by omega) (hk6.row p5 (s5.v _ (.inr rfl)).2.1) rfl rv6 hK
        | false =>
          rw [if_neg (by rw [hq]; decide)] at hK
          try simp only [e_fd, e_nck, e_pkt, e_pkf, e_gdtt, e_gdtf, e_gdft, e_gdff, e_ift, e_iff, e_not, e_ln, e_lnT, e_cp, e_cvi, e_ex20, e_ex21, e_ex30, e_ex31, e_ex32, e_add, e_sub, e_mul, e_quo, e_rem, e_and, e_or, e_xor, e_shl, e_shr, e_eql, e_neq, e_lss, e_leq, e_gtr, e_geq, e_beq, e_bne, e_peq1, e_peq2, e_pne1, e_pne2, e_zeq1, e_zeq2, e_zne1, e_zne2, e_feq1, e_fne1, e_feq2, e_fne2, e_seq, e_sne, e_ta1, e_ta2, Nat.zero_add, Nat.add_zero, Bool.not_true, Bool.not_false]
          refine ldq q5 ?_
          refine chgE_ok cv hmb g1 s5.en ⟨lv, rfl, hl5.mono hM5⟩ hN hv (by have := eb1.s1; omega) (fun r hr => ?_) (s5.step fun w6 M6 m6 s6 hk6 l6 rv6 => ?_)
          · have ht := roomS_tl C { σ1 with ent := ent (σ1.seq + 1) q } J (((ent (σ1.seq + 1) q).length : Nat) : Int)
            rw [← hr] at ht
            have a1 := eb1.t0
            have a2 := eb1.t1
            have a3 := eb1.l0
            have a4 := eb1.l1
            obtain ⟨t1, t2⟩ := ht
            constructor
            · rcases t1 with q | q
              · rw [q]; exact ⟨a1, a2⟩
              · rw [q]; exact ⟨by decide, by decide⟩
            · rcases t2 with q | q
              · rw [q]; exact ⟨a3, a4⟩
              · rw [q]; exact ⟨by decide, by decide⟩
          · exact stg_end (w2 := w5) s6 (.inr rfl) (by omega) (by omega) (hk6.row p5 (s5.v _ (.inr rfl)).2.1) rfl rv6 hK
      · rw [if_neg hv] at hK
        simp only [hv, decide_false, Bool.not_false, e_fd, e_nck, e_pkt, e_pkf, e_gdtt, e_gdtf, e_gdft, e_gdff, e_ift, e_iff, e_not, e_ln, e_lnT, e_cp, e_cvi, e_ex20, e_ex21, e_ex30, e_ex31, e_ex32, e_add, e_sub, e_mul, e_quo, e_rem, e_and, e_or, e_xor, e_shl, e_shr, e_eql, e_neq, e_lss, e_leq, e_gtr, e_geq, e_beq, e_bne, e_peq1, e_peq2, e_pne1, e_pne2, e_zeq1, e_zeq2, e_zne1, e_zne2, e_feq1, e_fne1, e_feq2, e_fne2, e_seq, e_sne, e_ta1, e_ta2, Nat.zero_add, Nat.add_zero, Bool.not_true, Bool.not_false]
        exact ref k35 hK
end
end Go.Proofs.Qxb6500896aGreat
