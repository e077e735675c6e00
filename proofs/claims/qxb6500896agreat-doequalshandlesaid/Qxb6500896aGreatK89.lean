import Derived.Test.Qxb6500896aGreatN13
namespace Go.Proofs.Qxb6500896aGreat
open Go.Sh Go.RowKit
set_option linter.unusedVariables false
set_option linter.unusedSimpArgs false

section
variable {F G M0 M M' S V : Nat → Prop} {w w' w0 w1 w4 : World} {v v' rv lv iv va vt env wv : Value} {l l0 : List Value} {n wb e t b c pb j : Nat} {C : Cfg} {K : Value → World → Prop} {m0 m m' m4 : Me} {σ σ' : Sg} {J J' : Jr} {q : Rq} {p : Rp} {x bs : List Int} {lob : Option Nat}
set_option maxHeartbeats 1000000 in
/-- a request as a value -/
theorem doE_ok (cv : CV C) (hmb : C.mb ≤ 1000000) (g : σ.down = false → SGd C σ) (eb : EB σ) (h : En M w e m C σ J) (hq : Qv (Im M w) w l q) (hR : RqN q)
    (hK : ∀ w' M' m' l, Ext M M' w w' → Kp (OwnE e m) w w' → m'.j = m.j → (∀ b, OwnE e m' b → OwnE e m b ∨ w.heap.size ≤ b) → En M' w' e m' C (doS C q σ J).1 (doS C q σ J).2.1 → Rv (Fb w e w' m') w' l (doS C q σ J).2.2 → K (.agg l.toArray) w') : cl Tryz.prog 58 #[P e 0, .agg l.toArray] K w := by
  have hgd := stgS_gd (J := J) (q := q) cv g (by have := eb.s1; omega)
  obtain ⟨lv, rfl, hl⟩ := hq
  apply c58
  unfold s58_p2
  refine nw_r fun w1 r1 hk1 hz1 => ?_
  replace r1 : Row w1 w.heap.size 52 (q.cells lv) := r1
  refine nw_r fun w2 r2 hk2 hz2 => ?_
  replace r2 : Row w2 w1.heap.size 94 (rp0.cells nilS nilS nilS) := r2
  have s2 := ((Es.start h).new hk1 (Nat.le_refl _) (by omega)).new hk2 (Nat.le_refl _) (by omega)
  refine ldn_r (hk2.row' r1) (show 0 + 8 ≤ 8 by decide) ?_
  show cl Tryz.prog 141 #[P e 0, .agg (q.cells lv).toArray] _ w2
  refine stgE_ok cv hmb g eb s2.en ⟨lv, rfl, ((hl.kp' hk1).kp' hk2).mono fun b hb => ⟨fun q => ?_, by have := hb.2; omega⟩⟩ hR (s2.step2 fun w3 M3 m3 s3 hk3 ho3 l3 rv3 => ?_)
  · rcases q with (q | q) | q
    · exact hb.1 q
    · have := hb.2; omega
    · have := hb.2; omega
  unfold doS at hK
  generalize stgS C q σ J = a at hK s3 rv3 hgd
  have hl3 := rv3.len
  have hss := rv3.sc
  have s3z := hk3.size
  have r3 := hk3.row r2 (s2.v _ (.inr rfl)).2.1
  refine nw_r fun w4 r4 hk4 hz4 => ?_
  refine stn_r (cs := l3) r4 hl3 (show 0 + 34 ≤ 34 by decide) hss fun w5 r5 hk5 hz5 => ?_
  rw [List.take_zero, List.nil_append, Nat.zero_add, List.drop_of_length_le (by decide), List.append_nil] at r5
  have s5 := (s3.new hk4 (Nat.le_refl _) (by omega)).wr hk5 fun b (q : b = _) => .inr q
  have rv5 := (rv3.kp hk4 fun _ _ q => q).kp hk5 fun b hb (q : b = _) => by have := hb.2.1; omega
  have rt5 := hk5.row (hk4.row' r3) (show ¬ w1.heap.size = _ by omega)
  refine setE_ok cv hmb hgd s5.en (s5.step2 fun w6 M6 m6 s6 hk6 ho6 => ?_)
  have hk6z := hk6.size
  have r6 := hk6.row r5 (s5.v _ (.inr rfl)).2.1
  have rt6 := hk6.row rt5 (s5.v _ (.inl (.inr rfl))).2.1
  have rv6 := rv5.kp hk6 fun b hb q => hb.2.2 q
  generalize setS C a.1 a.2.1 = y at hK s6 ⊢
  have fin : ∀ (w7 : World) (l : List Value) (p : Rp), Es M w e m C (fun b => ((Emp b ∨ b = w.heap.size) ∨ b = w1.heap.size) ∨ b = w3.heap.size) w7 M6 m6 y.1 y.2.1 → Row w7 w3.heap.size 94 l → Row w7 w1.heap.size 94 (rp0.cells nilS nilS nilS) → Rv (fun b => w2.heap.size ≤ b ∧ b < w7.heap.size ∧ b ≠ w1.heap.size ∧ ¬ OwnE e m6 b) w7 l p → (if y.2.2 = 0 then a.2.2 else rf 19) = p → s58_p1 K (P w1.heap.size 0) (P w3.heap.size 0) w7 := by
    intro w7 l p s7 r7 rt7 rv7 he
    rw [he] at hK
    have hl := rv7.len
    have hsc := rv7.sc
    unfold s58_p1
    refine ldn_r r7 (by omega) ?_
    rw [List.drop_zero, List.take_of_length_le (by omega)]
    refine stn_r (cs := l) rt7 hl (by rw [Rp.len rfl]; omega) hsc fun w8 r8 hk8 hz8 => ?_
    rw [List.take_zero, List.nil_append, Nat.zero_add, List.drop_of_length_le (by rw [Rp.len rfl]; omega), List.append_nil] at r8
    refine ldn_r r8 (by omega) ?_
    rw [List.drop_zero, List.take_of_length_le (by omega)]
    have s8 := s7.wr hk8 fun b (q : b = _) => .inl (.inr q)
    exact hK w8 M6 m6 l s8.x s8.k s8.j s8.o s8.en ((rv7.kp hk8 fun b hb (q : b = _) => hb.2.2.1 q).mono fun b hb => ⟨by have := hb.1; omega, by have := hb.2.1; omega, hb.2.2.2⟩)
  simp only [nei, e_fd, e_nck, e_pkt, e_pkf, e_gdtt, e_gdtf, e_gdft, e_gdff, e_ift, e_iff, e_not, e_ln, e_lnT, e_cp, e_cvi, e_ex20, e_ex21, e_ex30, e_ex31, e_ex32, e_add, e_sub, e_mul, e_quo, e_rem, e_and, e_or, e_xor, e_shl, e_shr, e_eql, e_neq, e_lss, e_leq, e_gtr, e_geq, e_beq, e_bne, e_peq1, e_peq2, e_pne1, e_pne2, e_zeq1, e_zeq2, e_zne1, e_zne2, e_feq1, e_fne1, e_feq2, e_fne2, e_seq, e_sne, e_ta1, e_ta2, Nat.zero_add, Nat.add_zero, Bool.not_true, Bool.not_false]
  by_cases h0 : y.2.2 = 0
  · simp only [h0, decide_true, Bool.not_true, e_fd, e_nck, e_pkt, e_pkf, e_gdtt, e_gdtf, e_gdft, e_gdff, e_ift, e_iff, e_not, e_ln, e_lnT, e_cp, e_cvi, e_ex20, e_ex21, e_ex30, e_ex31, e_ex32, e_add, e_sub, e_mul, e_quo, e_rem, e_and, e_or, e_xor, e_shl, e_shr, e_eql, e_neq, e_lss, e_leq, e_gtr, e_geq, e_beq, e_bne, e_peq1, e_peq2, e_pne1, e_pne2, e_zeq1, e_zeq2, e_zne1, e_zne2, e_feq1, e_fne1, e_feq2, e_fne2, e_seq, e_sne, e_ta1, e_ta2, Nat.zero_add, Nat.add_zero, Bool.not_true, Bool.not_false]
    refine fin w6 l3 a.2.2 ⟨s6.x, s6.k, s6.j, s6.o, s6.en, fun c q => s6.v c q⟩ r6 rt6 (rv6.mono fun b hb => ⟨hb.1, by have := hb.2.1; omega, by have := hb.1; omega, fun q => ?_⟩) (by rw [if_pos h0])
    rcases ho6 b q with q | q
    · exact hb.2.2 q
    · have := hb.2.1; omega
  · simp only [h0, decide_false, Bool.not_false, e_fd, e_nck, e_pkt, e_pkf, e_gdtt, e_gdtf, e_gdft, e_gdff, e_ift, e_iff, e_not, e_ln, e_lnT, e_cp, e_cvi, e_ex20, e_ex21, e_ex30, e_ex31, e_ex32, e_add, e_sub, e_mul, e_quo, e_rem, e_and, e_or, e_xor, e_shl, e_shr, e_eql, e_neq, e_lss, e_leq, e_gtr, e_geq, e_beq, e_bne, e_peq1, e_peq2, e_pne1, e_pne2, e_zeq1, e_zeq2, e_zne1, e_zne2, e_feq1, e_fne1, e_feq2, e_fne2, e_seq, e_sne, e_ta1, e_ta2, Nat.zero_add, Nat.add_zero, Bool.not_true, Bool.not_false]
    refine refusal_ok fun w7 hk7 => ?_
    refine stn_r (cs := (rf 19).cells nilS nilS nilS) (hk7.row' r6) rfl (by omega) (Rp.sc rfl rfl rfl) fun w8 r8 hk8 hz8 => ?_
    rw [List.take_zero, List.nil_append, Nat.zero_add, List.drop_of_length_le (by omega), List.append_nil] at r8
    exact fin w8 _ (rf 19) ((s6.emp hk7).wr hk8 fun b (q : b = _) => .inr q) r8 (hk8.row (hk7.row' rt6) (show ¬ w1.heap.size = _ by omega)) (Rv.plain rfl rfl rfl rfl) (by rw [if_neg h0])
end
end Go.Proofs.Qxb6500896aGreat
