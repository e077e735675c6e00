import Derived.Test.Qxb6500896aGreatDoorK46
namespace Go.Proofs.Qxb6500896aGreatDoor
open Go.Sh Go.RowKit
set_option linter.unusedVariables false
set_option linter.unusedSimpArgs false

/-- a snapshot read anew: its parts lie in blocks of their own -/
structure ImF (w0 w : World) (rv lv : Value) (im : Img) : Prop where
  ex : ∃ (N : Nat) (rob : Option Nat) (its : List (Rec × Value)) (wb : Nat) (lms : List Lm), its.map (·.1) = im.rs ∧ Sl rC 7 w 66 rob rv its ∧ (∀ b, rob = some b → w0.heap.size ≤ b ∧ b < N) ∧ (∀ p ∈ its, Ar lC 2 (fun b => (w0.heap.size ≤ b ∧ b < N) ∧ rob ≠ some b) w p.2 p.1.legs) ∧
    lv = .slice (some ⟨wb, 0, none⟩) im.ls.length im.ls.length ∧ (w0.heap.size ≤ N ∧ N ≤ wb) ∧ lms.map Lm.ids = im.ls ∧ Row w wb 43 (lms.map Lm.val) ∧ (∀ p ∈ lms, Sl iC 1 w 3 p.blk p.val p.ids ∧ ∀ b, p.blk = some b → N ≤ b) ∧ lms.Pairwise (fun p q => ∀ b, p.blk = some b → q.blk ≠ some b)
theorem rLnsN_n : ∀ (n : Nat) (s : RS), (rLnsN n s).1.length = n
  | 0, s => rfl
  | n + 1, s => by
    show ((rIds s).1 :: (rLnsN n (rIds s).2).1).length = _
    rw [List.length_cons, rLnsN_n n]
section
variable {F S : Nat → Prop} {w w' : World} {v : Value} {K : Value → World → Prop}
set_option maxHeartbeats 2000000 in
theorem decImg_ok {bs : List Int} (h : Ar bC 1 F w v bs) (hb : By bs) (hF : ∀ b, F b → b < w.heap.size) (hsl : bs.length ≤ 1000000000)
    (hno : (decImg bs).2 = false → ∀ w', Kp Emp w w' → K (.tuple #[.agg (imC 0 0 0 nilS nilS).toArray, .bool false]) w')
    (hyes : (decImg bs).2 = true → ∀ w' rv lv, Kp Emp w w' → ImF w w' rv lv (decImg bs).1 → K (.tuple #[.agg (imC (decImg bs).1.rules (decImg bs).1.seq (decImg bs).1.now rv lv).toArray, .bool true]) w') : cl Tryz.prog 83 #[v] K w := by
  apply c83R
  unfold s83R_p7
  refine nw_r fun w1 r1 hk1 hz1 => ?_
  replace r1 : Row w1 w.heap.size 141 (imC 0 0 0 nilS nilS) := r1
  refine rd_new (h.kp' hk1) hb (fun b q => by have := hF b q; omega) fun w2 d2 hk2 hz2 => ?_
  refine roct_ok d2 fun w3 d3 hk3 => ?_
  have hz3 := hk3.size
  have hol : (rOct (bs, false)).2.1.length ≤ bs.length := by unfold rOct; split <;> simp_all
  unfold decImg at hno hyes
  generalize (rOct (bs, false)).1 = o at hno hyes ⊢
  generalize (rOct (bs, false)).2 = s at hno hyes d3 hol
  have r13 : Row w3 w.heap.size 141 (imC 0 0 0 nilS nilS) := hk3.row (hk2.row' r1) (by omega)
  have k3 : Kp Emp w w3 := (hk1.trans hk2).then hk3 fun k hk (q : k = _) => by omega
  by_cases ho : o = 1
  · rw [if_pos ho] at hno hyes
    subst ho
    have e1 : ((1 : Int) != 1) = false := rfl
    simp only [e1, e_fd, e_nck, e_pkt, e_pkf, e_gdtt, e_gdtf, e_gdft, e_gdff, e_ift, e_iff, e_not, e_ln, e_lnT, e_cp, e_cvi, e_ex20, e_ex21, e_ex30, e_ex31, e_ex32, e_add, e_sub, e_mul, e_quo, e_rem, e_and, e_or, e_xor, e_shl, e_shr, e_eql, e_neq, e_lss, e_leq, e_gtr, e_geq, e_beq, e_bne, e_peq1, e_peq2, e_pne1, e_pne2, e_zeq1, e_zeq2, e_zne1, e_zne2, e_feq1, e_fne1, e_feq2, e_fne2, e_seq, e_sne, e_ta1, e_ta2, Nat.zero_add, Nat.add_zero, Bool.not_true, Bool.not_false]
    refine nw_r fun w4 r4 hk4 hz4 => ?_
    replace r4 : Row w4 w3.heap.size 141 (imC 0 0 0 nilS nilS) := r4
    have d4 := d3.kp' hk4
    have rbl := d3.lt
    have q4 := hk4.row' r13
    have hF2 : ∀ b, F b → b ≠ w3.heap.size := fun b q => by have := hF b q; omega
    have step : ∀ {wa wb : World}, Kp Emp w wa → Kp (fun b => b = w1.heap.size ∨ b = w3.heap.size) wa wb → Kp Emp w wb := fun a b => a.then b fun k hk q => by omega
    refine rq_num (k := 0) d4 r4 (by simp [imC]) (by omega) hF2 fun w5 d5 r5 kk5 => ?_
    have k5 := step (k3.trans hk4) kk5
    have q5 := kk5.row q4 (by omega)
    refine rq_num (k := 1) d5 r5 (by simp [imC]) (by omega) hF2 fun w6 d6 r6 kk6 => ?_
    have k6 := step k5 kk6
    have q6 := kk6.row q5 (by omega)
    refine rq_num (k := 2) d6 r6 (by simp [imC]) (by omega) hF2 fun w7 d7 r7 kk7 => ?_
    have k7 := step k6 kk7
    have q7 := kk7.row q6 (by omega)
    have sz7 : w4.heap.size ≤ w7.heap.size := by have := kk5.size; have := kk6.size; have := kk7.size; omega
    have l7 : (rNum (rNum (rNum s).2).2).2.1.length ≤ bs.length := by
      have := rNum_le s; have := rNum_le (rNum s).2; have := rNum_le (rNum (rNum s).2).2; omega
    have hdI : decI s = (⟨((rNum s).1 : Nat), ((rNum (rNum s).2).1 : Nat), ((rNum (rNum (rNum s).2).2).1 : Nat), (rRecs (rNum (rNum (rNum s).2).2).2).1, (rLnsN (rCount 1 (rRecs (rNum (rNum (rNum s).2).2).2).2).1 (rCount 1 (rRecs (rNum (rNum (rNum s).2).2).2).2).2).1⟩,
   (rLnsN (rCount 1 (rRecs (rNum (rNum (rNum s).2).2).2).2).1 (rCount 1 (rRecs (rNum (rNum (rNum s).2).2).2).2).2).2) := rfl
    rw [hdI] at hno hyes
    clear hdI
    replace r7 : Row w7 w3.heap.size 141 (imC ((rNum s).1 : Nat) ((rNum (rNum s).2).1 : Nat) ((rNum (rNum (rNum s).2).2).1 : Nat) nilS nilS) := r7
    generalize ((rNum s).1 : Int) = ia at hno hyes r7
    generalize ((rNum (rNum s).2).1 : Int) = ib at hno hyes r7
    generalize ((rNum (rNum (rNum s).2).2).1 : Int) = ic at hno hyes r7
    generalize (rNum (rNum (rNum s).2).2).2 = s7 at hno hyes d7 l7
    refine rrecs_ok d7 (by omega) (fun b q => by have := hF b q; omega) fun w8 rv8 rob8 its8 d8 e8 s8 hro8 hlg8 hk8 => ?_
    have sz8 := hk8.size
    have l8 : (rRecs s7).2.1.length ≤ bs.length := by have := rRecs_le s7; omega
    generalize (rRecs s7).1 = rs8 at hno hyes e8
    generalize (rRecs s7).2 = s88 at hno hyes d8 l8
    have k8 : Kp Emp w w8 := k7.then hk8 fun k hk (q : k = _) => by omega
    have r8 := hk8.row r7 (by omega)
    have q8 := hk8.row q7 (by omega)
    try simp only [e_fd, e_nck, e_pkt, e_pkf, e_gdtt, e_gdtf, e_gdft, e_gdff, e_ift, e_iff, e_not, e_ln, e_lnT, e_cp, e_cvi, e_ex20, e_ex21, e_ex30, e_ex31, e_ex32, e_add, e_sub, e_mul, e_quo, e_rem, e_and, e_or, e_xor, e_shl, e_shr, e_eql, e_neq, e_lss, e_leq, e_gtr, e_geq, e_beq, e_bne, e_peq1, e_peq2, e_pne1, e_pne2, e_zeq1, e_zeq2, e_zne1, e_zne2, e_feq1, e_fne1, e_feq2, e_fne2, e_seq, e_sne, e_ta1, e_ta2, Nat.zero_add, Nat.add_zero, Bool.not_true, Bool.not_false]
    refine st1_r r8 (by simp [imC]) (sl_scal s8) fun w9 r9 hk9 hz9 => ?_
    replace r9 : Row w9 w3.heap.size 141 (imC ia ib ic rv8 nilS) := r9
    have k9 : Kp Emp w w9 := k8.then hk9 fun k hk (q : k = _) => by omega
    have q9 := hk9.row q8 (by omega)
    have d9 := d8.kp hk9 hF2 (by omega)
    have s9 := s8.kp hk9 fun b e (q : b = _) => by have := (hro8 b e).1; omega
    have hlg9 : ∀ p ∈ its8, Ar lC 2 (fun b => Nb w7 w8 b ∧ rob8 ≠ some b) w9 p.2 p.1.legs := fun p hp => (hlg8 p hp).kp hk9 fun b hb (q : b = _) => by have := hb.1.1; omega
    refine rcount_ok (k := 1) (by decide) (by decide) d9 fun w10 d10 hk10 => ?_
    have sz10 := hk10.size
    have hnl : (rCount 1 s88).1 ≤ bs.length := by
      have h1 : (rCount 1 s88).1 ≤ s88.1.length / 1 := by unfold rCount; exact rUp_v _ _
      have := Nat.div_le_self s88.1.length 1
      omega
    have hnl2 : (rCount 1 s88).2.1.length ≤ bs.length := by
      have h1 : (rCount 1 s88).2.1.length ≤ s88.1.length := by unfold rCount; exact rUp_le _ _
      omega
    generalize (rCount 1 s88).1 = n at hno hyes hnl
    generalize (rCount 1 s88).2 = s10 at hno hyes d10 hnl2
    have k10 : Kp Emp w w10 := k9.then hk10 fun k hk (q : k = _) => by omega
    have r10 := hk10.row r9 (by omega)
    have q10 := hk10.row q9 (by omega)
    have s10' := s9.kp hk10 fun b e (q : b = _) => by have := (hro8 b e).1; omega
    have hlg10 : ∀ p ∈ its8, Ar lC 2 (fun b => Nb w7 w8 b ∧ rob8 ≠ some b) w10 p.2 p.1.legs := fun p hp => (hlg9 p hp).kp hk10 fun b hb (q : b = _) => by have := hb.1.1; omega
    refine mks_r (n := n) (by omega) (by omega) fun w11 rw11 hk11 hz11 => ?_
    try simp only [e_fd, e_nck, e_pkt, e_pkf, e_gdtt, e_gdtf, e_gdft, e_gdff, e_ift, e_iff, e_not, e_ln, e_lnT, e_cp, e_cvi, e_ex20, e_ex21, e_ex30, e_ex31, e_ex32, e_add, e_sub, e_mul, e_quo, e_rem, e_and, e_or, e_xor, e_shl, e_shr, e_eql, e_neq, e_lss, e_leq, e_gtr, e_geq, e_beq, e_bne, e_peq1, e_peq2, e_pne1, e_pne2, e_zeq1, e_zeq2, e_zne1, e_zne2, e_feq1, e_fne1, e_feq2, e_fne2, e_seq, e_sne, e_ta1, e_ta2, Nat.zero_add, Nat.add_zero, Bool.not_true, Bool.not_false]
    refine st1_r (hk11.row' r10) (by simp [imC]) rfl fun w12 r12 hk12 hz12 => ?_
    replace r12 : Row w12 w3.heap.size 141 (imC ia ib ic rv8 (.slice (some ⟨w10.heap.size, 0, none⟩) n n)) := r12
    have k12 : Kp Emp w w12 := (k10.trans hk11).then hk12 fun k hk (q : k = _) => by omega
    have q12 := hk12.row (hk11.row' q10) (show ¬ w.heap.size = w3.heap.size by omega)
    have d12 := (d10.kp' hk11).kp hk12 hF2 (by omega)
    have s12 := (s10'.kp' hk11).kp hk12 fun b e (q : b = _) => by have := (hro8 b e).1; omega
    have hlg12 : ∀ p ∈ its8, Ar lC 2 (fun b => Nb w7 w8 b ∧ rob8 ≠ some b) w12 p.2 p.1.legs := fun p hp => ((hlg10 p hp).kp' hk11).kp hk12 fun b hb (q : b = _) => by have := hb.1.1; omega
    have rw12 := hk12.row rw11 (show ¬ w10.heap.size = w3.heap.size by omega)
    refine ld1_r (v := .slice (some ⟨w10.heap.size, 0, none⟩) n n) r12 rfl ?_
    try simp only [e_fd, e_nck, e_pkt, e_pkf, e_gdtt, e_gdtf, e_gdft, e_gdff, e_ift, e_iff, e_not, e_ln, e_lnT, e_cp, e_cvi, e_ex20, e_ex21, e_ex30, e_ex31, e_ex32, e_add, e_sub, e_mul, e_quo, e_rem, e_and, e_or, e_xor, e_shl, e_shr, e_eql, e_neq, e_lss, e_leq, e_gtr, e_geq, e_beq, e_bne, e_peq1, e_peq2, e_pne1, e_pne2, e_zeq1, e_zeq2, e_zne1, e_zne2, e_feq1, e_fne1, e_feq2, e_fne2, e_seq, e_sne, e_ta1, e_ta2, Nat.zero_add, Nat.add_zero, Bool.not_true, Bool.not_false]
    refine dec_lines d12 (by omega) (fun b q => by have := hF b q; omega) (fun q => by have := hF _ q; omega) r12 rfl (by omega) rw12 fun w13 lms d13 e13 rw13 hl13 hp13 hk13 => ?_
    have sz13 := hk13.size
    have hln : (rLnsN n s10).1.length = n := rLnsN_n n s10
    generalize (rLnsN n s10).1 = ls13 at hno hyes e13 hln
    generalize (rLnsN n s10).2 = s13 at hno hyes d13
    have k13 : Kp Emp w w13 := k12.then hk13 fun k hk q => by omega
    have r13' := hk13.row r12 (by omega)
    have q13 := hk13.row q12 (by omega)
    have s13' := s12.kp hk13 fun b e q => by have := (hro8 b e).1; have := (hro8 b e).2; omega
    have hlg13 : ∀ p ∈ its8, Ar lC 2 (fun b => Nb w7 w8 b ∧ rob8 ≠ some b) w13 p.2 p.1.legs := fun p hp => (hlg12 p hp).kp hk13 fun b hb q => by have := hb.1.1; have := hb.1.2; omega
    unfold s83R_p1
    refine rdone_ok d13 fun w14 hk14 => ?_
    have k14 := k13.trans hk14
    have q14 := hk14.row' q13
    have r14 := hk14.row' r13'
    cases hd : rDone s13 with
    | true =>
      rw [if_pos hd] at hyes
      simp only [Bool.not_true, e_fd, e_nck, e_pkt, e_pkf, e_gdtt, e_gdtf, e_gdft, e_gdff, e_ift, e_iff, e_not, e_ln, e_lnT, e_cp, e_cvi, e_ex20, e_ex21, e_ex30, e_ex31, e_ex32, e_add, e_sub, e_mul, e_quo, e_rem, e_and, e_or, e_xor, e_shl, e_shr, e_eql, e_neq, e_lss, e_leq, e_gtr, e_geq, e_beq, e_bne, e_peq1, e_peq2, e_pne1, e_pne2, e_zeq1, e_zeq2, e_zne1, e_zne2, e_feq1, e_fne1, e_feq2, e_fne2, e_seq, e_sne, e_ta1, e_ta2, Nat.zero_add, Nat.add_zero, Bool.not_true, Bool.not_false]
      refine ldn_r r14 (show 0 + 5 ≤ 5 by decide) ?_
      have hsc : (imC ia ib ic rv8 (.slice (some ⟨w10.heap.size, 0, none⟩) n n)).all scal = true := by simp only [imC, List.all_cons, List.all_nil, sl_scal s8]; rfl
      refine stn_r (cs := imC ia ib ic rv8 (.slice (some ⟨w10.heap.size, 0, none⟩) n n)) q14 rfl (show 0 + 5 ≤ 5 by decide) hsc fun w15 r15 hk15 hz15 => ?_
      replace r15 : Row w15 w.heap.size 141 (imC ia ib ic rv8 (.slice (some ⟨w10.heap.size, 0, none⟩) n n)) := r15
      refine ldn_r r15 (show 0 + 5 ≤ 5 by decide) ?_
      refine hyes rfl w15 rv8 (.slice (some ⟨w10.heap.size, 0, none⟩) n n) (k14.then hk15 fun k hk (q : k = _) => by omega) ⟨w8.heap.size, rob8, its8, w10.heap.size, lms, e8, ?_, fun b e => ⟨by have := (hro8 b e).1; omega, (hro8 b e).2⟩, fun p hp => ?_, by rw [hln], ⟨by omega, by omega⟩, e13, ?_, fun p hp => ⟨?_, fun b e => by have := ((hl13 p hp).2 b e).1; omega⟩, hp13⟩
      · exact (s13'.kp' hk14).kp hk15 fun b e (q : b = _) => by have := (hro8 b e).1; omega
      · exact (((hlg13 p hp).kp' hk14).kp hk15 fun b hb (q : b = _) => by have := hb.1.1; omega).mono fun b hb => ⟨⟨by have := hb.1.1; omega, hb.1.2⟩, hb.2⟩
      · exact hk15.row (hk14.row' rw13) (by omega)
      · exact ((hl13 p hp).1.kp' hk14).kp hk15 fun b e (q : b = _) => by have := ((hl13 p hp).2 b e).1; omega
    | false =>
      rw [if_neg (show ¬ rDone s13 = true by rw [hd]; simp)] at hno
      simp only [Bool.not_false, e_fd, e_nck, e_pkt, e_pkf, e_gdtt, e_gdtf, e_gdft, e_gdff, e_ift, e_iff, e_not, e_ln, e_lnT, e_cp, e_cvi, e_ex20, e_ex21, e_ex30, e_ex31, e_ex32, e_add, e_sub, e_mul, e_quo, e_rem, e_and, e_or, e_xor, e_shl, e_shr, e_eql, e_neq, e_lss, e_leq, e_gtr, e_geq, e_beq, e_bne, e_peq1, e_peq2, e_pne1, e_pne2, e_zeq1, e_zeq2, e_zne1, e_zne2, e_feq1, e_fne1, e_feq2, e_fne2, e_seq, e_sne, e_ta1, e_ta2, Nat.zero_add, Nat.add_zero, Bool.not_true, Bool.not_false]
      refine bdq_r (l := imC 0 0 0 nilS nilS) rfl ?_
      refine stn_r (cs := imC 0 0 0 nilS nilS) q14 rfl (show 0 + 5 ≤ 5 by decide) rfl fun w15 r15 hk15 hz15 => ?_
      replace r15 : Row w15 w.heap.size 141 (imC 0 0 0 nilS nilS) := r15
      refine ldn_r r15 (show 0 + 5 ≤ 5 by decide) ?_
      exact hno rfl w15 (k14.then hk15 fun k hk (q : k = _) => by omega)
  · rw [if_neg ho] at hno
    have e1 : (o != 1) = true := by rw [bne_iff_ne]; exact ho
    simp only [e1, e_fd, e_nck, e_pkt, e_pkf, e_gdtt, e_gdtf, e_gdft, e_gdff, e_ift, e_iff, e_not, e_ln, e_lnT, e_cp, e_cvi, e_ex20, e_ex21, e_ex30, e_ex31, e_ex32, e_add, e_sub, e_mul, e_quo, e_rem, e_and, e_or, e_xor, e_shl, e_shr, e_eql, e_neq, e_lss, e_leq, e_gtr, e_geq, e_beq, e_bne, e_peq1, e_peq2, e_pne1, e_pne2, e_zeq1, e_zeq2, e_zne1, e_zne2, e_feq1, e_fne1, e_feq2, e_fne2, e_seq, e_sne, e_ta1, e_ta2, Nat.zero_add, Nat.add_zero, Bool.not_true, Bool.not_false]
    refine bdq_r (l := imC 0 0 0 nilS nilS) rfl ?_
    refine stn_r (cs := imC 0 0 0 nilS nilS) r13 rfl (show 0 + 5 ≤ 5 by decide) rfl fun w4 r4 hk4 hz4 => ?_
    replace r4 : Row w4 w.heap.size 141 (imC 0 0 0 nilS nilS) := r4
    refine ldn_r r4 (show 0 + 5 ≤ 5 by decide) ?_
    exact hno rfl w4 (k3.then hk4 fun k hk (q : k = _) => by omega)
end
end Go.Proofs.Qxb6500896aGreatDoor
