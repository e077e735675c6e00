import Derived.Test.Qxb6500896aGreatK78
namespace Go.Proofs.Qxb6500896aGreat
open Go.Sh Go.RowKit
set_option linter.unusedVariables false
set_option linter.unusedSimpArgs false

section
variable {F G S : Nat → Prop} {w w' : World} {v : Value} {K : Value → World → Prop} {now la gr : Int} {l : List Value} {a b : Int} {k : IntKind}
theorem bo_no {X : Value → World → Prop} (h : (a == b) = false) (hX : X (.bool false) w) : boI .eql (.int k a) (.int k b) X w := by
  simp only [h, e_fd, e_nck, e_pkt, e_pkf, e_gdtt, e_gdtf, e_gdft, e_gdff, e_ift, e_iff, e_not, e_ln, e_lnT, e_cp, e_cvi, e_ex20, e_ex21, e_ex30, e_ex31, e_ex32, e_add, e_sub, e_mul, e_quo, e_rem, e_and, e_or, e_xor, e_shl, e_shr, e_eql, e_neq, e_lss, e_leq, e_gtr, e_geq, e_beq, e_bne, e_peq1, e_peq2, e_pne1, e_pne2, e_zeq1, e_zeq2, e_zne1, e_zne2, e_feq1, e_fne1, e_feq2, e_fne2, e_seq, e_sne, e_ta1, e_ta2, Nat.zero_add, Nat.add_zero, Bool.not_true, Bool.not_false]
  exact hX
theorem bo_yes {X : Value → World → Prop} (h : (a == b) = true) (hX : X (.bool true) w) : boI .eql (.int k a) (.int k b) X w := by
  simp only [h, e_fd, e_nck, e_pkt, e_pkf, e_gdtt, e_gdtf, e_gdft, e_gdff, e_ift, e_iff, e_not, e_ln, e_lnT, e_cp, e_cvi, e_ex20, e_ex21, e_ex30, e_ex31, e_ex32, e_add, e_sub, e_mul, e_quo, e_rem, e_and, e_or, e_xor, e_shl, e_shr, e_eql, e_neq, e_lss, e_leq, e_gtr, e_geq, e_beq, e_bne, e_peq1, e_peq2, e_pne1, e_pne2, e_zeq1, e_zeq2, e_zne1, e_zne2, e_feq1, e_fne1, e_feq2, e_fne2, e_seq, e_sne, e_ta1, e_ta2, Nat.zero_add, Nat.add_zero, Bool.not_true, Bool.not_false]
  exact hX
theorem By.app' {xs ys : List Int} (h1 : By xs) (h2 : By ys) : By (xs ++ ys) := h1.app h2
set_option maxHeartbeats 2000000 in
/-- the reply to the question for the clock is read -/
theorem decClk_ok (h : Ar bC 1 F w v (0 :: 20 :: (uI now ++ (uI la ++ (uI gr ++ []))))) (hF : ∀ b, F b → b < w.heap.size) (h1 : N63 now) (h2 : N63 la) (h3 : N63 gr)
    (hK : ∀ w' (l : List Value), Kp Emp w w' → l.length = 34 → l.all scal = true → l[6]? = some (I now) → K (.tuple #[.agg l.toArray, .bool true]) w') : cl Tryz.prog 45 #[v] K w := by
  have hB : By (0 :: 20 :: (uI now ++ (uI la ++ (uI gr ++ [])))) := By.cons ⟨by decide, by decide⟩ (By.cons ⟨by decide, by decide⟩ ((uI_by _).app ((uI_by _).app ((uI_by _).app By.nil))))
  apply c45
  unfold s45_p41
  refine nw_r fun w1 r1 hk1 hz1 => ?_
  replace r1 : Row w1 w.heap.size 94 (rp0.cells nilS nilS nilS) := r1
  refine rd_new (h.kp' hk1) hB (fun b q => by have := hF b q; omega) fun w2 d2 hk2 hz2 => ?_
  refine roct_ok d2 fun w3 d3 hk3 => ?_
  replace d3 : Rd F w3 w1.heap.size (20 :: (uI now ++ (uI la ++ (uI gr ++ []))), false) := d3
  have e0 : IntKind.i64.wrap 0 = 0 := by decide
  show cvi .i64 (U8 0) _ w3
  simp only [e0, e_fd, e_nck, e_pkt, e_pkf, e_gdtt, e_gdtf, e_gdft, e_gdff, e_ift, e_iff, e_not, e_ln, e_lnT, e_cp, e_cvi, e_ex20, e_ex21, e_ex30, e_ex31, e_ex32, e_add, e_sub, e_mul, e_quo, e_rem, e_and, e_or, e_xor, e_shl, e_shr, e_eql, e_neq, e_lss, e_leq, e_gtr, e_geq, e_beq, e_bne, e_peq1, e_peq2, e_pne1, e_pne2, e_zeq1, e_zeq2, e_zne1, e_zne2, e_feq1, e_fne1, e_feq2, e_fne2, e_seq, e_sne, e_ta1, e_ta2, Nat.zero_add, Nat.add_zero, Bool.not_true, Bool.not_false]
  have s3 := hk3.size
  refine bdq_r (l := rp0.cells nilS nilS nilS) rfl ?_
  refine nw_r fun w4 r4 hk4 hz4 => ?_
  refine stn_r (cs := rp0.cells nilS nilS nilS) r4 rfl (show 0 + 34 ≤ 34 by decide) (Rp.sc rfl rfl rfl) fun w5 r5 hk5 hz5 => ?_
  replace r5 : Row w5 w3.heap.size 94 (rp0.cells nilS nilS nilS) := r5
  have hF5 : ∀ b, F b → b ≠ w3.heap.size := fun b q => by have := hF b q; omega
  have d5 : Rd F w5 w1.heap.size (20 :: (uI now ++ (uI la ++ (uI gr ++ []))), false) := (d3.kp' hk4).kp hk5 hF5 (show ¬ w1.heap.size = w3.heap.size by omega)
  have k5 : Kp Emp w w5 := (((hk1.trans hk2).then hk3 fun b hb (q : b = _) => by omega).trans hk4).then hk5 fun b hb (q : b = _) => by omega
  have rt5 : Row w5 w.heap.size 94 (rp0.cells nilS nilS nilS) := hk5.row (hk4.row' (hk3.row (hk2.row' r1) (show ¬ w.heap.size = _ by omega))) (show ¬ w.heap.size = _ by omega)
  have hsz : w.heap.size < w1.heap.size ∧ w1.heap.size < w3.heap.size ∧ w3.heap.size < w5.heap.size := ⟨by omega, by omega, by omega⟩
  generalize w3.heap.size = qb at r4 r5 hk5 hF5 hsz ⊢
  generalize w1.heap.size = rb at d2 d3 d5 hk3 hsz ⊢
  generalize ht2 : w.heap.size = t2 at rt5 hsz ⊢
  clear hk3 hk2 hk1 hk4 hk5 d2 d3 r4 r1
  refine fdp ?_
  refine ld1_r (v := I 0) r5 rfl ?_
  have e1 : decide ((23 : Int) ≤ 0) = false := by decide
  simp only [e1, e_fd, e_nck, e_pkt, e_pkf, e_gdtt, e_gdtf, e_gdft, e_gdff, e_ift, e_iff, e_not, e_ln, e_lnT, e_cp, e_cvi, e_ex20, e_ex21, e_ex30, e_ex31, e_ex32, e_add, e_sub, e_mul, e_quo, e_rem, e_and, e_or, e_xor, e_shl, e_shr, e_eql, e_neq, e_lss, e_leq, e_gtr, e_geq, e_beq, e_bne, e_peq1, e_peq2, e_pne1, e_pne2, e_zeq1, e_zeq2, e_zne1, e_zne2, e_feq1, e_fne1, e_feq2, e_fne2, e_seq, e_sne, e_ta1, e_ta2, Nat.zero_add, Nat.add_zero, Bool.not_true, Bool.not_false]
  refine ld1_r (v := I 0) r5 rfl ?_
  have e2 : ((0 : Int) != 0) = false := rfl
  simp only [e2, e_fd, e_nck, e_pkt, e_pkf, e_gdtt, e_gdtf, e_gdft, e_gdff, e_ift, e_iff, e_not, e_ln, e_lnT, e_cp, e_cvi, e_ex20, e_ex21, e_ex30, e_ex31, e_ex32, e_add, e_sub, e_mul, e_quo, e_rem, e_and, e_or, e_xor, e_shl, e_shr, e_eql, e_neq, e_lss, e_leq, e_gtr, e_geq, e_beq, e_bne, e_peq1, e_peq2, e_pne1, e_pne2, e_zeq1, e_zeq2, e_zne1, e_zne2, e_feq1, e_fne1, e_feq2, e_fne2, e_seq, e_sne, e_ta1, e_ta2, Nat.zero_add, Nat.add_zero, Bool.not_true, Bool.not_false]
  refine roct_ok d5 fun w6 d6 hk6 => ?_
  replace d6 : Rd F w6 rb (uI now ++ (uI la ++ (uI gr ++ [])), false) := d6
  have s6 := hk6.size
  show st1 (P qb 1) (U8 20) _ w6
  refine st1_r (hk6.row r5 (show ¬ qb = rb by omega)) (show 1 < 34 by decide) rfl fun w7 r7 hk7 hz7 => ?_
  have d7 := d6.kp hk7 hF5 (show ¬ rb = qb by omega)
  have rt7 := hk7.row (hk6.row rt5 (show ¬ t2 = rb by omega)) (show ¬ t2 = qb by omega)
  have k7 : Kp Emp w w7 := (k5.then hk6 fun b hb (q : b = _) => by omega).then hk7 fun b hb (q : b = _) => by omega
  refine ld1_r (v := U8 20) r7 rfl ?_
  unfold s45_p40
  refine bo_no rfl ?_
  refine sw_f ?_
  refine bo_no rfl ?_
  unfold s45_p39
  refine sw_f ?_
  unfold s45_p38
  refine bo_no rfl ?_
  unfold s45_p37
  refine sw_f ?_
  unfold s45_p36
  refine bo_no rfl ?_
  refine sw_f ?_
  refine bo_no rfl ?_
  refine sw_f ?_
  refine bo_no rfl ?_
  refine sw_f ?_
  refine bo_no rfl ?_
  refine sw_f ?_
  refine bo_no rfl ?_
  refine sw_f ?_
  refine bo_no rfl ?_
  unfold s45_p35
  refine sw_f ?_
  unfold s45_p34
  refine bo_no rfl ?_
  unfold s45_p33
  refine sw_f ?_
  unfold s45_p32
  refine bo_no rfl ?_
  unfold s45_p31
  refine sw_f ?_
  unfold s45_p30
  refine bo_no rfl ?_
  unfold s45_p29
  refine sw_f ?_
  unfold s45_p28
  refine bo_no rfl ?_
  unfold s45_p27
  refine sw_f ?_
  unfold s45_p26
  refine bo_no rfl ?_
  unfold s45_p25
  refine sw_f ?_
  unfold s45_p24
  refine bo_yes rfl ?_
  unfold s45_p23
  refine sw_t ?_
  unfold s45_p13
  refine rq_num (k := 6) d7 r7 (by rw [List.length_set]; decide) (by omega) hF5 fun w8 d8 r8 hk8 => ?_
  rw [rNum_uI h1] at d8 r8
  refine rq_num (k := 19) d8 r8 (by rw [List.length_set, List.length_set]; decide) (by omega) hF5 fun w9 d9 r9 hk9 => ?_
  rw [rNum_uI h2] at d9 r9
  refine rq_num (k := 20) d9 r9 (by rw [List.length_set, List.length_set, List.length_set]; decide) (by omega) hF5 fun w10 d10 r10 hk10 => ?_
  rw [rNum_uI h3] at d10 r10
  have s8 := hk8.size
  have s9 := hk9.size
  have s10 := hk10.size
  have k10 : Kp Emp w w10 := ((k7.then hk8 fun b hb q => by omega).then hk9 fun b hb q => by omega).then hk10 fun b hb q => by omega
  have rt10 := hk10.row (hk9.row (hk8.row rt7 (show ¬ (t2 = rb ∨ t2 = qb) by omega)) (show ¬ (t2 = rb ∨ t2 = qb) by omega)) (show ¬ (t2 = rb ∨ t2 = qb) by omega)
  unfold s45_p1
  refine rdone_ok d10 fun w11 hk11 => ?_
  have e3 : rDone (([] : List Int), false) = true := rfl
  simp only [e3, e_fd, e_nck, e_pkt, e_pkf, e_gdtt, e_gdtf, e_gdft, e_gdff, e_ift, e_iff, e_not, e_ln, e_lnT, e_cp, e_cvi, e_ex20, e_ex21, e_ex30, e_ex31, e_ex32, e_add, e_sub, e_mul, e_quo, e_rem, e_and, e_or, e_xor, e_shl, e_shr, e_eql, e_neq, e_lss, e_leq, e_gtr, e_geq, e_beq, e_bne, e_peq1, e_peq2, e_pne1, e_pne2, e_zeq1, e_zeq2, e_zne1, e_zne2, e_feq1, e_fne1, e_feq2, e_fne2, e_seq, e_sne, e_ta1, e_ta2, Nat.zero_add, Nat.add_zero, Bool.not_true, Bool.not_false]
  have en : ((now.toNat : Nat) : Int) = now := by have := h1.1; omega
  generalize hcs : ((((rp0.cells nilS nilS nilS).set 1 (U8 20)).set 6 (I ((now.toNat, uI la ++ (uI gr ++ []), false).fst : Nat))).set 19 (I ((la.toNat, uI gr ++ [], false).fst : Nat))).set 20 (I ((gr.toNat, ([] : List Int), false).fst : Nat)) = cs at r10
  have hl : cs.length = 34 := by rw [← hcs]; rfl
  have hsc : cs.all scal = true := by rw [← hcs]; rfl
  have h6 : cs[6]? = some (I now) := by
    rw [← hcs]
    show some (I ((now.toNat : Nat) : Int)) = _
    rw [en]
  refine ldn_r (hk11.row' r10) (by omega) ?_
  rw [List.drop_zero, List.take_of_length_le (by omega)]
  refine stn_r (cs := cs) (hk11.row' rt10) hl (show 0 + 34 ≤ 34 by decide) hsc fun w12 r12 hk12 hz12 => ?_
  rw [List.take_zero, List.nil_append, Nat.zero_add, List.drop_of_length_le (by decide), List.append_nil] at r12
  refine ldn_r r12 (by omega) ?_
  rw [List.drop_zero, List.take_of_length_le (by omega)]
  exact hK w12 cs ((k10.trans hk11).then hk12 fun b hb (q : b = _) => by omega) hl hsc h6
end
end Go.Proofs.Qxb6500896aGreat
