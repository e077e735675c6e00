import Derived.Test.Qxb6500896aGreatN7
namespace Go.Proofs.Qxb6500896aGreat
open Go.Sh Go.RowKit
set_option linter.unusedVariables false
set_option linter.unusedSimpArgs false

/-- a request in bytes is served -/
def hndS (C : Cfg) (bs : List Int) (σ : Sg) (J : Jr) : Sg × Jr × Rp :=
  ((setS C (stbS C bs σ J).1 (stbS C bs σ J).2.1).1, (setS C (stbS C bs σ J).1 (stbS C bs σ J).2.1).2.1, if (setS C (stbS C bs σ J).1 (stbS C bs σ J).2.1).2.2 = 0 then (stbS C bs σ J).2.2 else rf 19)
/-- a request as a value is served -/
def doS (C : Cfg) (q : Rq) (σ : Sg) (J : Jr) : Sg × Jr × Rp :=
  ((setS C (stgS C q σ J).1 (stgS C q σ J).2.1).1, (setS C (stgS C q σ J).1 (stgS C q σ J).2.1).2.1, if (setS C (stgS C q σ J).1 (stgS C q σ J).2.1).2.2 = 0 then (stgS C q σ J).2.2 else rf 19)
section
variable {C : Cfg} {q : Rq} {σ : Sg} {J : Jr}
theorem chgS_gd (cv : CV C) (g : SGd C σ) (hv : valid C σ.now q = 0) (hs : σ.seq + 1 ≤ 9223372036854775807) (hd : (chgS C q σ J).1.down = false) : SGd C (chgS C q σ J).1 := by
  unfold chgS at hd ⊢
  simp only at hd ⊢
  have hsame := roomS_same C { σ with ent := ent (σ.seq + 1) q } J (((ent (σ.seq + 1) q).length : Nat) : Int)
  generalize roomS C { σ with ent := ent (σ.seq + 1) q } J (((ent (σ.seq + 1) q).length : Nat) : Int) = r at hsame hd ⊢
  have g1 : SGd C r.1 := hsame.gd g
  have v1 : valid C r.1.now q = 0 := by rw [hsame.now]; exact hv
  have e1 : r.1.seq = σ.seq := hsame.seq
  by_cases h1 : r.2.2 = 0
  · rw [if_pos h1] at hd ⊢
    by_cases h2 : (apS C q r.1).2.code = 0
    · rw [if_pos h2] at hd ⊢
      have ga := apS_gd cv g1 v1 (by omega) h2
      have hk := apS_keep C q r.1
      unfold wrtS at hd ⊢
      by_cases h3 : (appJ r.2.1 (ent (σ.seq + 1) q)).2 = 0
      · rw [if_pos h3] at hd ⊢
        rw [if_pos rfl] at hd ⊢
        show Gd C ((apS C q r.1).1.seq + 1) _ _ _
        rw [hk.2.1]
        exact ga
      · rw [if_neg h3] at hd
        rw [if_neg (show ¬ (19 : Int) = 0 by decide)] at hd
        unfold refS at hd
        split at hd <;> cases hd
    · rw [if_neg h2] at hd ⊢
      rw [apS_no h2]
      exact (refS_same _ _).gd g1
  · rw [if_neg h1] at hd ⊢
    exact (refS_same _ _).gd g1
theorem ansS_same : Same σ (ansS C q σ).1 := by
  unfold ansS
  split
  · exact ⟨rfl, rfl, rfl, rfl, rfl, rfl⟩
  · exact refS_same _ _
theorem stgS_gd (cv : CV C) (g : σ.down = false → SGd C σ) (hs : σ.seq + 1 ≤ 9223372036854775807) (hd : (stgS C q σ J).1.down = false) : SGd C (stgS C q σ J).1 := by
  unfold stgS at hd ⊢
  simp only at hd ⊢
  have hsr : Same σ { σ with sr := w1 σ.sr } := ⟨rfl, rfl, rfl, rfl, rfl, rfl⟩
  by_cases h0 : σ.down = true
  · rw [if_pos h0] at hd
    unfold refS at hd
    split at hd <;> simp only [h0] at hd <;> cases hd
  · rw [if_neg h0] at hd ⊢
    have g := hsr.gd (g (by simpa using h0))
    by_cases h1 : xpr q = false
    · rw [if_pos h1]
      exact (refS_same _ _).gd g
    · rw [if_neg h1] at hd ⊢
      by_cases h2 : valid C σ.now q = 0
      · rw [if_pos h2] at hd ⊢
        by_cases h3 : isQ q.op = true
        · rw [if_pos h3]
          exact ansS_same.gd g
        · rw [if_neg h3] at hd ⊢
          exact chgS_gd cv g h2 hs hd
      · rw [if_neg h2]
        exact (refS_same _ _).gd g
theorem stbS_gd {bs : List Int} (cv : CV C) (g : σ.down = false → SGd C σ) (hs : σ.seq + 1 ≤ 9223372036854775807) (hd : (stbS C bs σ J).1.down = false) : SGd C (stbS C bs σ J).1 := by
  unfold stbS at hd ⊢
  have hsr : Same σ { σ with sr := w1 σ.sr } := ⟨rfl, rfl, rfl, rfl, rfl, rfl⟩
  by_cases h0 : σ.down = true
  · rw [if_pos h0] at hd
    unfold refS at hd
    split at hd <;> simp only [h0] at hd <;> cases hd
  · rw [if_neg h0] at hd ⊢
    by_cases h1 : (dec bs).2 = 0
    · rw [if_pos h1] at hd ⊢
      exact stgS_gd cv g hs hd
    · rw [if_neg h1]
      exact (refS_same _ _).gd (hsr.gd (g (by simpa using h0)))
end
section
variable {F G M0 M M' S V : Nat → Prop} {w w' w0 w1 w4 : World} {v v' rv lv iv va vt env wv : Value} {l l0 : List Value} {n wb e t b c pb j : Nat} {C : Cfg} {K : Value → World → Prop} {m0 m m' m4 : Me} {σ σ' : Sg} {J J' : Jr} {q : Rq} {p : Rp} {x bs : List Int} {lob : Option Nat}
theorem dec_c2 (bs : List Int) (h : (dec bs).2 ≠ 0) : (dec bs).2 = 1 := by
  unfold dec decE at h ⊢
  split
  · rename_i q; rw [if_pos q] at h; exact absurd rfl h
  · rfl
set_option maxHeartbeats 1000000 in
theorem stbE_ok (cv : CV C) (hmb : C.mb ≤ 1000000) (g : σ.down = false → SGd C σ) (eb : EB σ) (h : En M w e m C σ J) (hx : Ar bC 1 F w v bs) (hF : ∀ b, F b → b < w.heap.size) (hB : By bs)
    (hK : EnK M w e m C (stbS C bs σ J).1 (stbS C bs σ J).2.1 fun w' m' => ∀ l, Rv (Fb w e w' m') w' l (stbS C bs σ J).2.2 → K (.agg l.toArray) w') : cl Tryz.prog 127 #[P e 0, v] K w := by
  apply c127
  unfold s127_p1
  refine nw_r fun w1 r1 hk1 hz1 => ?_
  replace r1 : Row w1 w.heap.size 94 (rp0.cells nilS nilS nilS) := r1
  have s1 := (Es.start h).new hk1 (Nat.le_refl _) (by omega)
  obtain ⟨va1, vt1, env1, re1⟩ := s1.row
  unfold stbS at hK
  try simp only [e_fd, e_nck, e_pkt, e_pkf, e_gdtt, e_gdtf, e_gdft, e_gdff, e_ift, e_iff, e_not, e_ln, e_lnT, e_cp, e_cvi, e_ex20, e_ex21, e_ex30, e_ex31, e_ex32, e_add, e_sub, e_mul, e_quo, e_rem, e_and, e_or, e_xor, e_shl, e_shr, e_eql, e_neq, e_lss, e_leq, e_gtr, e_geq, e_beq, e_bne, e_peq1, e_peq2, e_pne1, e_pne2, e_zeq1, e_zeq2, e_zne1, e_zne2, e_feq1, e_fne1, e_feq2, e_fne2, e_seq, e_sne, e_ta1, e_ta2, Nat.zero_add, Nat.add_zero, Bool.not_true, Bool.not_false]
  refine ld1_r re1 rfl ?_
  -- a refusal, counted
  have ref : ∀ {code : Int} {V : Nat → Prop} {w4 : World} {M4 : Nat → Prop} {X : Value → World → Prop}, Es M w e m C V w4 M4 m σ J → V w.heap.size → Row w4 w.heap.size 94 (rp0.cells nilS nilS nilS) → (EnK M w e m C (refS code { σ with sr := Go.Proofs.Qxb6500896aGreat.w1 σ.sr }) J fun w' m' => ∀ l, Rv (Fb w e w' m') w' l (rf code) → K (.agg l.toArray) w') →
      fd 22 (P e 0) (fun q w => fd 0 q (fun q w => ld1 q (fun t w => boI .add t (I 1) (fun t w => fd 22 (P e 0) (fun q w => fd 0 q (fun q w => st1 q t (fun w => cl Tryz.prog 178 #[P e 0, I code] (fun t w => stn 34 (P w.heap.size 0) t (fun w => ldn 34 (P w.heap.size 0) (fun r0 _ => K r0 w) w) w) w) w) w) w) w) w) w) w4 → True := fun _ _ _ _ _ => trivial
  clear ref
  have fin : ∀ {code : Int} {V : Nat → Prop} {w4 : World} {M4 : Nat → Prop}, Es M w e m C V w4 M4 m { σ with sr := Go.Proofs.Qxb6500896aGreat.w1 σ.sr } J → V w.heap.size → Row w4 w.heap.size 94 (rp0.cells nilS nilS nilS) → (EnK M w e m C (refS code { σ with sr := Go.Proofs.Qxb6500896aGreat.w1 σ.sr }) J fun w' m' => ∀ l, Rv (Fb w e w' m') w' l (rf code) → K (.agg l.toArray) w') →
      cl Tryz.prog 178 #[P e 0, I code] (fun t w' => stn 34 (P w.heap.size 0) t (fun w' => ldn 34 (P w.heap.size 0) (fun r0 _ => K r0 w') w') w') w4 := by
    intro code V w4 M4 s4 hV p4 hK
    refine refuse_ok s4.en (s4.step fun w5 M5 m5 s5 hk5 hm5 => ?_)
    exact stg_end (w2 := w1) s5 hV (by omega) (by omega) (hk5.row p4 (s4.v _ hV).2.1) rfl (Rv.plain rfl rfl rfl rfl) hK
  cases hd : σ.down with
  | true =>
    rw [if_pos hd] at hK
    try simp only [e_fd, e_nck, e_pkt, e_pkf, e_gdtt, e_gdtf, e_gdft, e_gdff, e_ift, e_iff, e_not, e_ln, e_lnT, e_cp, e_cvi, e_ex20, e_ex21, e_ex30, e_ex31, e_ex32, e_add, e_sub, e_mul, e_quo, e_rem, e_and, e_or, e_xor, e_shl, e_shr, e_eql, e_neq, e_lss, e_leq, e_gtr, e_geq, e_beq, e_bne, e_peq1, e_peq2, e_pne1, e_pne2, e_zeq1, e_zeq2, e_zne1, e_zne2, e_feq1, e_fne1, e_feq2, e_fne2, e_seq, e_sne, e_ta1, e_ta2, Nat.zero_add, Nat.add_zero, Bool.not_true, Bool.not_false]
    refine ld1_r re1 rfl ?_
    try simp only [e_fd, e_nck, e_pkt, e_pkf, e_gdtt, e_gdtf, e_gdft, e_gdff, e_ift, e_iff, e_not, e_ln, e_lnT, e_cp, e_cvi, e_ex20, e_ex21, e_ex30, e_ex31, e_ex32, e_add, e_sub, e_mul, e_quo, e_rem, e_and, e_or, e_xor, e_shl, e_shr, e_eql, e_neq, e_lss, e_leq, e_gtr, e_geq, e_beq, e_bne, e_peq1, e_peq2, e_pne1, e_pne2, e_zeq1, e_zeq2, e_zne1, e_zne2, e_feq1, e_fne1, e_feq2, e_fne2, e_seq, e_sne, e_ta1, e_ta2, Nat.zero_add, Nat.add_zero, Bool.not_true, Bool.not_false]
    refine s1.st { σ with sr := Go.Proofs.Qxb6500896aGreat.w1 σ.sr } (by decide) rfl (fun va vt env => rfl) rfl ⟨rfl, rfl⟩ h.rf fun w3 s3 hk3 hz3 => ?_
    exact fin s3 (.inr rfl) (hk3.row r1 (s1.nV (.inr rfl) (.inl rfl))) hK
  | false =>
    rw [if_neg (by rw [hd]; decide)] at hK
    try simp only [e_fd, e_nck, e_pkt, e_pkf, e_gdtt, e_gdtf, e_gdft, e_gdff, e_ift, e_iff, e_not, e_ln, e_lnT, e_cp, e_cvi, e_ex20, e_ex21, e_ex30, e_ex31, e_ex32, e_add, e_sub, e_mul, e_quo, e_rem, e_and, e_or, e_xor, e_shl, e_shr, e_eql, e_neq, e_lss, e_leq, e_gtr, e_geq, e_beq, e_bne, e_peq1, e_peq2, e_pne1, e_pne2, e_zeq1, e_zeq2, e_zne1, e_zne2, e_feq1, e_fne1, e_feq2, e_fne2, e_seq, e_sne, e_ta1, e_ta2, Nat.zero_add, Nat.add_zero, Bool.not_true, Bool.not_false]
    refine dec_ok (hx.kp' hk1) hB (fun b q => by have := hF b q; omega) fun w2 l2 hk2 hq2 => ?_
    obtain ⟨lv, rfl, hl2⟩ := hq2
    have hsc := hl2.scal
    have s2z := hk2.size
    simp only [ex2_0, ex2_1]
    refine nw_r fun w3 r3 hk3 hz3 => ?_
    refine stn_r (cs := (dec bs).1.cells lv) r3 rfl (show 0 + 8 ≤ 8 by decide) (by unfold Rq.cells; simp only [List.all_cons, List.all_nil, hsc]; rfl) fun w4 r4 hk4 hz4 => ?_
    replace r4 : Row w4 w2.heap.size 52 ((dec bs).1.cells lv) := r4
    have s4 := ((s1.emp hk2).new hk3 (Nat.le_refl _) (by omega)).wr hk4 fun b (q : b = _) => .inr q
    have p4 := hk4.row (hk3.row' (hk2.row' r1)) (show ¬ w.heap.size = _ by omega)
    have hl4 : Ar lC 2 (Nb w1 w2) w4 lv (dec bs).1.legs := (hl2.kp' hk3).kp hk4 fun b hb (q : b = _) => by have := hb.2; omega
    simp only [nei, e_fd, e_nck, e_pkt, e_pkf, e_gdtt, e_gdtf, e_gdft, e_gdff, e_ift, e_iff, e_not, e_ln, e_lnT, e_cp, e_cvi, e_ex20, e_ex21, e_ex30, e_ex31, e_ex32, e_add, e_sub, e_mul, e_quo, e_rem, e_and, e_or, e_xor, e_shl, e_shr, e_eql, e_neq, e_lss, e_leq, e_gtr, e_geq, e_beq, e_bne, e_peq1, e_peq2, e_pne1, e_pne2, e_zeq1, e_zeq2, e_zne1, e_zne2, e_feq1, e_fne1, e_feq2, e_fne2, e_seq, e_sne, e_ta1, e_ta2, Nat.zero_add, Nat.add_zero, Bool.not_true, Bool.not_false]
    by_cases h0 : (dec bs).2 = 0
    · rw [if_pos h0] at hK
      have e0 : (((dec bs).2 : Nat) : Int) = 0 := by rw [h0]; rfl
      simp only [e0, decide_true, Bool.not_true, e_fd, e_nck, e_pkt, e_pkf, e_gdtt, e_gdtf, e_gdft, e_gdff, e_ift, e_iff, e_not, e_ln, e_lnT, e_cp, e_cvi, e_ex20, e_ex21, e_ex30, e_ex31, e_ex32, e_add, e_sub, e_mul, e_quo, e_rem, e_and, e_or, e_xor, e_shl, e_shr, e_eql, e_neq, e_lss, e_leq, e_gtr, e_geq, e_beq, e_bne, e_peq1, e_peq2, e_pne1, e_pne2, e_zeq1, e_zeq2, e_zne1, e_zne2, e_feq1, e_fne1, e_feq2, e_fne2, e_seq, e_sne, e_ta1, e_ta2, Nat.zero_add, Nat.add_zero, Bool.not_true, Bool.not_false]
      refine ldn_r r4 (show 0 + 8 ≤ 8 by decide) ?_
      show cl Tryz.prog 141 #[P e 0, .agg ((dec bs).1.cells lv).toArray] _ w4
      refine stgE_ok cv hmb g eb s4.en ⟨lv, rfl, hl4.mono fun b hb => ⟨fun q => ?_, by have := hb.2; omega⟩⟩ (dec_x h0).rq (s4.step fun w5 M5 m5 s5 hk5 l5 rv5 => ?_)
      · rcases q with (q | q) | q
        · have := h.lt b q; have := hb.1; omega
        · have := hb.1; omega
        · have := hb.2; omega
      · exact stg_end (w2 := w4) s5 (.inl (.inr rfl)) (by omega) (by omega) (hk5.row p4 (s4.v _ (.inl (.inr rfl))).2.1) rfl rv5 hK
    · rw [if_neg h0] at hK
      have e0 : ¬ (((dec bs).2 : Nat) : Int) = 0 := by omega
      simp only [e0, decide_false, Bool.not_false, e_fd, e_nck, e_pkt, e_pkf, e_gdtt, e_gdtf, e_gdft, e_gdff, e_ift, e_iff, e_not, e_ln, e_lnT, e_cp, e_cvi, e_ex20, e_ex21, e_ex30, e_ex31, e_ex32, e_add, e_sub, e_mul, e_quo, e_rem, e_and, e_or, e_xor, e_shl, e_shr, e_eql, e_neq, e_lss, e_leq, e_gtr, e_geq, e_beq, e_bne, e_peq1, e_peq2, e_pne1, e_pne2, e_zeq1, e_zeq2, e_zne1, e_zne2, e_feq1, e_fne1, e_feq2, e_fne2, e_seq, e_sne, e_ta1, e_ta2, Nat.zero_add, Nat.add_zero, Bool.not_true, Bool.not_false]
      obtain ⟨va4, vt4, env4, re4⟩ := s4.row
      refine ld1_r re4 rfl ?_
      try simp only [e_fd, e_nck, e_pkt, e_pkf, e_gdtt, e_gdtf, e_gdft, e_gdff, e_ift, e_iff, e_not, e_ln, e_lnT, e_cp, e_cvi, e_ex20, e_ex21, e_ex30, e_ex31, e_ex32, e_add, e_sub, e_mul, e_quo, e_rem, e_and, e_or, e_xor, e_shl, e_shr, e_eql, e_neq, e_lss, e_leq, e_gtr, e_geq, e_beq, e_bne, e_peq1, e_peq2, e_pne1, e_pne2, e_zeq1, e_zeq2, e_zne1, e_zne2, e_feq1, e_fne1, e_feq2, e_fne2, e_seq, e_sne, e_ta1, e_ta2, Nat.zero_add, Nat.add_zero, Bool.not_true, Bool.not_false]
      refine s4.st { σ with sr := Go.Proofs.Qxb6500896aGreat.w1 σ.sr } (by decide) rfl (fun va vt env => rfl) rfl ⟨rfl, rfl⟩ h.rf fun w5 s5 hk5 hz5 => ?_
      exact fin s5 (.inl (.inr rfl)) (hk5.row p4 (s4.nV (.inl (.inr rfl)) (.inl rfl))) hK
theorem hndE_ok (cv : CV C) (hmb : C.mb ≤ 1000000) (g : σ.down = false → SGd C σ) (eb : EB σ) (h : En M w e m C σ J) (hx : Ar bC 1 F w v bs) (hF : ∀ b, F b → b < w.heap.size) (hB : By bs)
    (hK : ∀ w' M' m' v b, Ext M M' w w' → Kp (OwnE e m) w w' → m'.j = m.j → (∀ b, OwnE e m' b → OwnE e m b ∨ w.heap.size ≤ b) → En M' w' e m' C (hndS C bs σ J).1 (hndS C bs σ J).2.1 → Sl bC 1 w' 5 (some b) v (eR (hndS C bs σ J).2.2) → Fb w e w' m' b → M' b → K v w') : cl Tryz.prog 40 #[P e 0, v] K w := by
  have hrp := stbS_rpn (J := J) (bs := bs) cv hmb g
  have hgd := stbS_gd (J := J) (bs := bs) cv g (by have := eb.s1; omega)
  apply c40
  unfold s40_p2
  refine stbE_ok cv hmb g eb h hx hF hB ((Es.start h).step2 fun w1 M1 m1 s1 hk1 ho1 l1 rv1 => ?_)
  unfold hndS at hK
  generalize stbS C bs σ J = a at hK s1 rv1 hrp hgd
  have hl1 := rv1.len
  have hss := rv1.sc
  have s1z := hk1.size
  refine nw_r fun w2 r2 hk2 hz2 => ?_
  refine stn_r (cs := l1) r2 hl1 (show 0 + 34 ≤ 34 by decide) hss fun w3 r3 hk3 hz3 => ?_
  rw [List.take_zero, List.nil_append, Nat.zero_add, List.drop_of_length_le (by decide), List.append_nil] at r3
  have s3 := (s1.new hk2 (Nat.le_refl _) (by omega)).wr hk3 fun b (q : b = _) => .inr q
  have rv3 := (rv1.kp hk2 fun _ _ q => q).kp hk3 fun b hb (q : b = _) => by have := hb.2.1; omega
  refine setE_ok cv hmb hgd s3.en (s3.step2 fun w4 M4 m4 s4 hk4 ho4 => ?_)
  have hk4z := hk4.size
  have r4 := hk4.row r3 (s3.v _ (.inr rfl)).2.1
  have rv4 := rv3.kp hk4 fun b hb q => hb.2.2 q
  generalize setS C a.1 a.2.1 = y at hK s4 ⊢
  have fin : ∀ (w5 : World) (l : List Value) (p : Rp), Es M w e m C (fun b => Emp b ∨ b = w1.heap.size) w5 M4 m4 y.1 y.2.1 → Row w5 w1.heap.size 94 l → Rv (fun b => w.heap.size ≤ b ∧ b < w5.heap.size ∧ ¬ OwnE e m4 b) w5 l p → RpN p → (if y.2.2 = 0 then a.2.2 else rf 19) = p → s40_p1 K (P w1.heap.size 0) w5 := by
    intro w5 l p s5 r5 rv5 hp he
    rw [he] at hK
    have hl := rv5.len
    unfold s40_p1
    refine ldn_r r5 (by omega) ?_
    rw [List.drop_zero, List.take_of_length_le (by omega)]
    refine encRep_ok hp rv5 (fun b hb => hb.2.1) fun w6 v6 b6 sl6 hb6 hk6 => ?_
    have s5z := s5.k.size
    have s6 := s5.new hk6 hb6.1 hb6.2
    have v6' := s6.v b6 (.inr rfl)
    exact hK w6 _ m4 v6 b6 s6.x s6.k s6.j s6.o s6.en sl6 ⟨v6'.2.2, hb6.2, v6'.2.1⟩ v6'.1
  simp only [nei, e_fd, e_nck, e_pkt, e_pkf, e_gdtt, e_gdtf, e_gdft, e_gdff, e_ift, e_iff, e_not, e_ln, e_lnT, e_cp, e_cvi, e_ex20, e_ex21, e_ex30, e_ex31, e_ex32, e_add, e_sub, e_mul, e_quo, e_rem, e_and, e_or, e_xor, e_shl, e_shr, e_eql, e_neq, e_lss, e_leq, e_gtr, e_geq, e_beq, e_bne, e_peq1, e_peq2, e_pne1, e_pne2, e_zeq1, e_zeq2, e_zne1, e_zne2, e_feq1, e_fne1, e_feq2, e_fne2, e_seq, e_sne, e_ta1, e_ta2, Nat.zero_add, Nat.add_zero, Bool.not_true, Bool.not_false]
  by_cases h0 : y.2.2 = 0
  · simp only [h0, decide_true, Bool.not_true, e_fd, e_nck, e_pkt, e_pkf, e_gdtt, e_gdtf, e_gdft, e_gdff, e_ift, e_iff, e_not, e_ln, e_lnT, e_cp, e_cvi, e_ex20, e_ex21, e_ex30, e_ex31, e_ex32, e_add, e_sub, e_mul, e_quo, e_rem, e_and, e_or, e_xor, e_shl, e_shr, e_eql, e_neq, e_lss, e_leq, e_gtr, e_geq, e_beq, e_bne, e_peq1, e_peq2, e_pne1, e_pne2, e_zeq1, e_zeq2, e_zne1, e_zne2, e_feq1, e_fne1, e_feq2, e_fne2, e_seq, e_sne, e_ta1, e_ta2, Nat.zero_add, Nat.add_zero, Bool.not_true, Bool.not_false]
    refine fin w4 l1 a.2.2 ⟨s4.x, s4.k, s4.j, s4.o, s4.en, fun c q => s4.v c (q.imp id id)⟩ r4 (rv4.mono fun b hb => ⟨hb.1, by have := hb.2.1; omega, fun q => ?_⟩) hrp (by rw [if_pos h0])
    rcases ho4 b q with q | q
    · exact hb.2.2 q
    · have := hb.2.1; omega
  · simp only [h0, decide_false, Bool.not_false, e_fd, e_nck, e_pkt, e_pkf, e_gdtt, e_gdtf, e_gdft, e_gdff, e_ift, e_iff, e_not, e_ln, e_lnT, e_cp, e_cvi, e_ex20, e_ex21, e_ex30, e_ex31, e_ex32, e_add, e_sub, e_mul, e_quo, e_rem, e_and, e_or, e_xor, e_shl, e_shr, e_eql, e_neq, e_lss, e_leq, e_gtr, e_geq, e_beq, e_bne, e_peq1, e_peq2, e_pne1, e_pne2, e_zeq1, e_zeq2, e_zne1, e_zne2, e_feq1, e_fne1, e_feq2, e_fne2, e_seq, e_sne, e_ta1, e_ta2, Nat.zero_add, Nat.add_zero, Bool.not_true, Bool.not_false]
    refine refusal_ok fun w5 hk5 => ?_
    refine stn_r (cs := (rf 19).cells nilS nilS nilS) (hk5.row' r4) rfl (by omega) (Rp.sc rfl rfl rfl) fun w6 r6 hk6 hz6 => ?_
    rw [List.take_zero, List.nil_append, Nat.zero_add, List.drop_of_length_le (by omega), List.append_nil] at r6
    exact fin w6 _ (rf 19) ((s4.emp hk5).wr hk6 fun b (q : b = _) => .inr q) r6 (Rv.plain rfl rfl rfl rfl) (RpN.rf ⟨by decide, by decide⟩) (by rw [if_neg h0])
end
end Go.Proofs.Qxb6500896aGreat
