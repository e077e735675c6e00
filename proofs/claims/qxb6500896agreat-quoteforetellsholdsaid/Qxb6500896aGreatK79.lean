import Derived.Test.Qxb6500896aGreatK78
import Derived.Test.Qxb6500896aGreatGn
namespace Go.Proofs.Qxb6500896aGreat
open Go.Sh Go.RowKit
set_option linter.unusedVariables false
set_option linter.unusedSimpArgs false

section
variable {W w w' w1 : World} {V F M : Nat → Prop} {r e j n : Nat} {σ : Sg} {J : Jr} {K : Value → World → Prop} {v : Value} {lob : Option Nat} {xs : List Op} {m : Me} {C : Cfg}
set_option maxHeartbeats 2000000 in
theorem quote_walk (hs : Scr W v xs) : cl Tryz.prog 13 #[v] (fun e W' => e = .bool true ∧ Below W.heap.size W W') W := by
  apply c13
  unfold s13_p5
  refine small_ok hs (Kp.refl _ _) fun rr hr => ?_
  cases rr with
  | false =>
    simp only [Bool.not_false, e_fd, e_nck, e_pkt, e_pkf, e_gdtt, e_gdtf, e_gdft, e_gdff, e_ift, e_iff, e_not, e_ln, e_lnT, e_cp, e_cvi, e_ex20, e_ex21, e_ex30, e_ex31, e_ex32, e_add, e_sub, e_mul, e_quo, e_rem, e_and, e_or, e_xor, e_shl, e_shr, e_eql, e_neq, e_lss, e_leq, e_gtr, e_geq, e_beq, e_bne, e_peq1, e_peq2, e_pne1, e_pne2, e_zeq1, e_zeq2, e_zne1, e_zne2, e_feq1, e_fne1, e_feq2, e_fne2, e_seq, e_sne, e_ta1, e_ta2, Nat.zero_add, Nat.add_zero, Bool.not_true, Bool.not_false]
    exact ⟨trivial, (Kp.refl _ _).below'⟩
  | true =>
    obtain ⟨hxl, hbl⟩ := hr rfl
    simp only [Bool.not_true, e_fd, e_nck, e_pkt, e_pkf, e_gdtt, e_gdtf, e_gdft, e_gdff, e_ift, e_iff, e_not, e_ln, e_lnT, e_cp, e_cvi, e_ex20, e_ex21, e_ex30, e_ex31, e_ex32, e_add, e_sub, e_mul, e_quo, e_rem, e_and, e_or, e_xor, e_shl, e_shr, e_eql, e_neq, e_lss, e_leq, e_gtr, e_geq, e_beq, e_bne, e_peq1, e_peq2, e_pne1, e_pne2, e_zeq1, e_zeq2, e_zne1, e_zne2, e_feq1, e_fne1, e_feq2, e_fne2, e_seq, e_sne, e_ta1, e_ta2, Nat.zero_add, Nat.add_zero, Bool.not_true, Bool.not_false]
    refine pj_ok2 fun w1 hk1 => ?_
    refine newRig_ok ⟨by decide, by decide⟩ hk1 fun w2 r e z2 hk2 => ?_
    obtain ⟨its, h1, h2, h3⟩ := hs
    have hil : its.length = xs.length := by rw [← h1, List.length_map]
    have hbl' : ∀ p ∈ its, p.1.bs.length ≤ 65536 := fun p hp => hbl _ (by rw [← h1]; exact List.mem_map_of_mem hp)
    refine h2.ln ?_
    unfold s13_p4
    refine loop_n its.length (fun i l w' => ∃ σ J, l = [P r 0, v, I (its.length : Nat), I (i : Nat)] ∧ Lz W Emp w' r e σ J ∧ Jlm 48 72 1200 J ∧ σ.seq ≤ ((2 * i : Nat) : Int)) ⟨_, _, rfl, z2, Jlm.zero.2 (by decide), by simp [sg0]⟩ ?_ ?_
    · rintro i l w3 hi ⟨σ, J, rfl, z3, jl3, hq3⟩ B hB
      rw [s13_p4_Fe]
      unfold s13_p3
      have hp := h3 _ (List.getElem_mem hi)
      have hbi := hbl' _ (List.getElem_mem hi)
      simp only [dlt hi, e_fd, e_nck, e_pkt, e_pkf, e_gdtt, e_gdtf, e_gdft, e_gdff, e_ift, e_iff, e_not, e_ln, e_lnT, e_cp, e_cvi, e_ex20, e_ex21, e_ex30, e_ex31, e_ex32, e_add, e_sub, e_mul, e_quo, e_rem, e_and, e_or, e_xor, e_shl, e_shr, e_eql, e_neq, e_lss, e_leq, e_gtr, e_geq, e_beq, e_bne, e_peq1, e_peq2, e_pne1, e_pne2, e_zeq1, e_zeq2, e_zne1, e_zne2, e_feq1, e_fne1, e_feq2, e_fne2, e_seq, e_sne, e_ta1, e_ta2, Nat.zero_add, Nat.add_zero, Bool.not_true, Bool.not_false]
      refine each_r rfl (h2.kp' z3.k) hi (opC_len _) (by simp only [opC, List.all_cons, List.all_nil, hp.1.scal]; rfl) fun w4 r4 hk4 hz4 => ?_
      have z4 := z3.new hk4 (Nat.le_refl _) (show w3.heap.size < w4.heap.size by omega)
      refine ldn_r r4 (show 0 + 4 ≤ 4 by decide) ?_
      refine isReq_ok (p := its[i]) fun w5 hk5 => ?_
      have z5 := z4.emp hk5
      have r5 := hk5.row' r4
      generalize its[i] = op at hp hbi r5 ⊢
      have next : ∀ {w6 : World} {V6 : Nat → Prop} {σ' : Sg} {J' : Jr}, Lz W V6 w6 r e σ' J' → Jlm 48 72 1200 J' → σ'.seq ≤ ((2 * (i + 1) : Nat) : Int) → s13_p2 (fun e W' => e = .bool true ∧ Below W.heap.size W W') B (P r 0) v (I (its.length : Nat)) (I (i : Nat)) w6 := fun {w6 V6 σ' J'} z6 jl6 hq6 => by
        unfold s13_p2
        try simp only [e_fd, e_nck, e_pkt, e_pkf, e_gdtt, e_gdtf, e_gdft, e_gdff, e_ift, e_iff, e_not, e_ln, e_lnT, e_cp, e_cvi, e_ex20, e_ex21, e_ex30, e_ex31, e_ex32, e_add, e_sub, e_mul, e_quo, e_rem, e_and, e_or, e_xor, e_shl, e_shr, e_eql, e_neq, e_lss, e_leq, e_gtr, e_geq, e_beq, e_bne, e_peq1, e_peq2, e_pne1, e_pne2, e_zeq1, e_zeq2, e_zne1, e_zne2, e_feq1, e_fne1, e_feq2, e_fne2, e_seq, e_sne, e_ta1, e_ta2, Nat.zero_add, Nat.add_zero, Bool.not_true, Bool.not_false]
        rw [inc i (by omega)]
        exact hB _ _ ⟨σ', J', rfl, z6.sub fun c q => q.elim, jl6, hq6⟩
      have sgs := z5.i.g.seq
      have sgn := z5.i.g.now
      cases hk : (op.1.kind == 0 || op.1.kind == 4) with
      | false =>
        simp only [Bool.not_false, e_fd, e_nck, e_pkt, e_pkf, e_gdtt, e_gdtf, e_gdft, e_gdff, e_ift, e_iff, e_not, e_ln, e_lnT, e_cp, e_cvi, e_ex20, e_ex21, e_ex30, e_ex31, e_ex32, e_add, e_sub, e_mul, e_quo, e_rem, e_and, e_or, e_xor, e_shl, e_shr, e_eql, e_neq, e_lss, e_leq, e_gtr, e_geq, e_beq, e_bne, e_peq1, e_peq2, e_pne1, e_pne2, e_zeq1, e_zeq2, e_zne1, e_zne2, e_feq1, e_fne1, e_feq2, e_fne2, e_seq, e_sne, e_ta1, e_ta2, Nat.zero_add, Nat.add_zero, Bool.not_true, Bool.not_false]
        exact next z5 jl3 (by omega)
      | true =>
        simp only [Bool.not_true, e_fd, e_nck, e_pkt, e_pkf, e_gdtt, e_gdtf, e_gdft, e_gdff, e_ift, e_iff, e_not, e_ln, e_lnT, e_cp, e_cvi, e_ex20, e_ex21, e_ex30, e_ex31, e_ex32, e_add, e_sub, e_mul, e_quo, e_rem, e_and, e_or, e_xor, e_shl, e_shr, e_eql, e_neq, e_lss, e_leq, e_gtr, e_geq, e_beq, e_bne, e_peq1, e_peq2, e_pne1, e_pne2, e_zeq1, e_zeq2, e_zne1, e_zne2, e_feq1, e_fne1, e_feq2, e_fne2, e_seq, e_sne, e_ta1, e_ta2, Nat.zero_add, Nat.add_zero, Bool.not_true, Bool.not_false]
        refine ld1_r (v := op.2) r5 rfl ?_
        have szz := z5.k.size
        refine dec_ok (hp.1.kp' z5.k) hp.2.1 (fun b q => by omega) fun w11 l11 hk11 hq11 => ?_
        obtain ⟨lv11, rfl, hl11⟩ := hq11
        have z11 := z5.emp hk11
        simp only [ex2_0, ex2_1]
        refine nw_r fun w12 r12 hk12 hz12 => ?_
        refine stn_r (cs := (dec op.1.bs).1.cells lv11) r12 rfl (show 0 + 8 ≤ 8 by decide) (by unfold Rq.cells; simp only [List.all_cons, List.all_nil, hl11.scal]; rfl) fun w13 r13 hk13 hz13 => ?_
        replace r13 : Row w13 w11.heap.size 52 ((dec op.1.bs).1.cells lv11) := r13
        have z13 := (z11.new hk12 (Nat.le_refl _) (by omega)).wr hk13 fun b (q : b = _) => .inr q
        have s11z := hk11.size
        have r13b := hk13.row (hk12.row' (hk11.row' r5)) (show ¬ w3.heap.size = _ by have := r5.lt; omega)
        have hl13 : Ar lC 2 (Nb w5 w11) w13 lv11 (dec op.1.bs).1.legs := (hl11.kp' hk12).kp hk13 fun b hb (q : b = _) => by have := hb.2; omega
        simp only [nei, e_fd, e_nck, e_pkt, e_pkf, e_gdtt, e_gdtf, e_gdft, e_gdff, e_ift, e_iff, e_not, e_ln, e_lnT, e_cp, e_cvi, e_ex20, e_ex21, e_ex30, e_ex31, e_ex32, e_add, e_sub, e_mul, e_quo, e_rem, e_and, e_or, e_xor, e_shl, e_shr, e_eql, e_neq, e_lss, e_leq, e_gtr, e_geq, e_beq, e_bne, e_peq1, e_peq2, e_pne1, e_pne2, e_zeq1, e_zeq2, e_zne1, e_zne2, e_feq1, e_fne1, e_feq2, e_fne2, e_seq, e_sne, e_ta1, e_ta2, Nat.zero_add, Nat.add_zero, Bool.not_true, Bool.not_false]
        have hold0 : ∀ c : Bool, (c = true → (dec op.1.bs).2 = 0 ∧ (dec op.1.bs).1.op = 1) → True := fun _ _ => trivial
        clear hold0
        have other : fd 1 (P w3.heap.size 0) (fun t37 w => ld1 t37 (fun t38 w => cl Tryz.prog 24 #[P r 0, t38] (fun t39 w => s13_p2 (fun e W' => e = .bool true ∧ Below W.heap.size W W') B (P r 0) v (I (its.length : Nat)) (I (i : Nat)) w) w) w) w13 := by
          refine fdp ?_
          refine ld1_r (v := op.2) r13b rfl ?_
          have szz := z13.k.size
          refine z13.send (by omega) (hp.1.kp' z13.k) (fun b q => by omega) hp.2.1 fun w9 v9 b9 S9 z9 s9 hb9 hk9 hS9 hW9 => ?_
          have hqq := hndS_q park op.1.bs σ J
          exact next z9 (jl3.hnd park_cv park_mb (by decide) z13.i hp.2.1 (by omega)) (by omega)
        by_cases h0 : (dec op.1.bs).2 = 0
        · have e0 : (((dec op.1.bs).2 : Nat) : Int) = 0 := by rw [h0]; rfl
          simp only [e0, decide_true, Bool.not_true, e_fd, e_nck, e_pkt, e_pkf, e_gdtt, e_gdtf, e_gdft, e_gdff, e_ift, e_iff, e_not, e_ln, e_lnT, e_cp, e_cvi, e_ex20, e_ex21, e_ex30, e_ex31, e_ex32, e_add, e_sub, e_mul, e_quo, e_rem, e_and, e_or, e_xor, e_shl, e_shr, e_eql, e_neq, e_lss, e_leq, e_gtr, e_geq, e_beq, e_bne, e_peq1, e_peq2, e_pne1, e_pne2, e_zeq1, e_zeq2, e_zne1, e_zne2, e_feq1, e_fne1, e_feq2, e_fne2, e_seq, e_sne, e_ta1, e_ta2, Nat.zero_add, Nat.add_zero, Bool.not_true, Bool.not_false]
          refine ld1_r r13 rfl ?_
          simp only [nei, e_fd, e_nck, e_pkt, e_pkf, e_gdtt, e_gdtf, e_gdft, e_gdff, e_ift, e_iff, e_not, e_ln, e_lnT, e_cp, e_cvi, e_ex20, e_ex21, e_ex30, e_ex31, e_ex32, e_add, e_sub, e_mul, e_quo, e_rem, e_and, e_or, e_xor, e_shl, e_shr, e_eql, e_neq, e_lss, e_leq, e_gtr, e_geq, e_beq, e_bne, e_peq1, e_peq2, e_pne1, e_pne2, e_zeq1, e_zeq2, e_zne1, e_zne2, e_feq1, e_fne1, e_feq2, e_fne2, e_seq, e_sne, e_ta1, e_ta2, Nat.zero_add, Nat.add_zero, Bool.not_true, Bool.not_false]
          by_cases h01 : (dec op.1.bs).1.op = 1
          · simp only [h01, decide_true, Bool.not_true, e_fd, e_nck, e_pkt, e_pkf, e_gdtt, e_gdtf, e_gdft, e_gdff, e_ift, e_iff, e_not, e_ln, e_lnT, e_cp, e_cvi, e_ex20, e_ex21, e_ex30, e_ex31, e_ex32, e_add, e_sub, e_mul, e_quo, e_rem, e_and, e_or, e_xor, e_shl, e_shr, e_eql, e_neq, e_lss, e_leq, e_gtr, e_geq, e_beq, e_bne, e_peq1, e_peq2, e_pne1, e_pne2, e_zeq1, e_zeq2, e_zne1, e_zne2, e_feq1, e_fne1, e_feq2, e_fne2, e_seq, e_sne, e_ta1, e_ta2, Nat.zero_add, Nat.add_zero, Bool.not_true, Bool.not_false]
            refine st1_r r13 (show 0 < 8 by decide) rfl fun w14 r14 hk14 hz14 => ?_
            replace r14 : Row w14 w11.heap.size 52 (((dec op.1.bs).1.to 22).cells lv11) := r14
            have z14 := z13.wr hk14 fun b (q : b = _) => .inr q
            have r14b := hk14.row r13b (show ¬ w3.heap.size = _ by have := r5.lt; omega)
            have hl14 : Ar lC 2 (Nb w5 w11) w14 lv11 (dec op.1.bs).1.legs := hl13.kp hk14 fun b hb (q : b = _) => by have := hb.2; omega
            refine ldn_r r14 (show 0 + 8 ≤ 8 by decide) ?_
            obtain ⟨a1, a2, a3⟩ := enc_22 hp.2.1 h0 h01
            have hN := dec_x h0
            refine ask_ok (l := ((dec op.1.bs).1.to 22).cells lv11) (q := (dec op.1.bs).1.to 22) ⟨lv11, rfl, hl14⟩ (by have := (dec_x (bs := enc ((dec op.1.bs).1.to 22)) (by rw [a1])).rq; rw [a1] at this; exact this) a3 fun w15 v15 b15 sl15 hb15 hk15 => ?_
            have z15 := z14.emp hk15
            have r15b := hk15.row' r14b
            have el : (enc ((dec op.1.bs).1.to 22)).length ≤ 1000000 := by have := (enc_len (q := (dec op.1.bs).1.to 22) hN.ll); omega
            refine z15.send (by omega) (sl15.arb (by omega)) (fun b (q : b = _) => by rw [q]; exact hb15.2) a2 fun w16 v16 b16 S16 z16 sl16 hb16 hk16 hS16 hW16 => ?_
            have s15z := hk15.size
            have s16z := hk16.size
            have r16b := hk16.row r15b (hS16 _ (.inl (.inr rfl)))
            have jl16 := jl3.hnd park_cv park_mb (by decide) z15.i a2 (by omega)
            have hqq := hndS_q park (enc ((dec op.1.bs).1.to 22)) σ J
            have key := fun σ' J' p => quote_foretells (σ' := σ') (J' := J') (p := p) z15.i jl3 z15.lo (by omega) hp.2.1 h0 h01
            have hpl := hnd_len (bs := enc ((dec op.1.bs).1.to 22)) z15.i
            generalize hx : hndS park (enc ((dec op.1.bs).1.to 22)) σ J = x at z16 sl16 jl16 hqq key hpl
            obtain ⟨σ', J', p⟩ := x
            simp only at z16 sl16 jl16 hqq hpl
            replace hpl : (eR p).length ≤ 140737488355328 := by omega
            replace key := key σ' J' p rfl
            refine sl16.ln ?_
            try simp only [e_fd, e_nck, e_pkt, e_pkf, e_gdtt, e_gdtf, e_gdft, e_gdff, e_ift, e_iff, e_not, e_ln, e_lnT, e_cp, e_cvi, e_ex20, e_ex21, e_ex30, e_ex31, e_ex32, e_add, e_sub, e_mul, e_quo, e_rem, e_and, e_or, e_xor, e_shl, e_shr, e_eql, e_neq, e_lss, e_leq, e_gtr, e_geq, e_beq, e_bne, e_peq1, e_peq2, e_pne1, e_pne2, e_zeq1, e_zeq2, e_zne1, e_zne2, e_feq1, e_fne1, e_feq2, e_fne2, e_seq, e_sne, e_ta1, e_ta2, Nat.zero_add, Nat.add_zero, Bool.not_true, Bool.not_false]
            by_cases hlt : (1 : Int) < (((eR p).length : Nat) : Int)
            · simp only [hlt, decide_true, e_fd, e_nck, e_pkt, e_pkf, e_gdtt, e_gdtf, e_gdft, e_gdff, e_ift, e_iff, e_not, e_ln, e_lnT, e_cp, e_cvi, e_ex20, e_ex21, e_ex30, e_ex31, e_ex32, e_add, e_sub, e_mul, e_quo, e_rem, e_and, e_or, e_xor, e_shl, e_shr, e_eql, e_neq, e_lss, e_leq, e_gtr, e_geq, e_beq, e_bne, e_peq1, e_peq2, e_pne1, e_pne2, e_zeq1, e_zeq2, e_zne1, e_zne2, e_feq1, e_fne1, e_feq2, e_fne2, e_seq, e_sne, e_ta1, e_ta2, Nat.zero_add, Nat.add_zero, Bool.not_true, Bool.not_false]
              refine sl16.ix bC_len (i := 1) (by omega) fun b17 l17 eb17 _ _ _ _ => ?_
              cases eb17
              refine sl_upd (i := 1) (j := 0) (y := 1) sl16 bC_len (by omega) (by decide) rfl rfl fun w17 sl17 hk17 hz17 => ?_
              have z17 := z16.wr hk17 fun b (q : b = _) => .inr q
              rw [if_pos (by omega)] at key
              have r17b := hk17.row r16b (show ¬ w3.heap.size = b16 by have := r5.lt; omega)
              refine ld1_r (v := op.2) r17b rfl ?_
              have szz17 := z17.k.size
              refine z17.send (by omega) (hp.1.kp' z17.k) (fun b q => by omega) hp.2.1 fun w18 v18 b18 S18 z18 sl18 hb18 hk18 hS18 hW18 => ?_
              have sl17' := sl17.kp hk18 fun c q => by cases q; exact hS18 _ (.inr rfl)
              have hpl2 : (eR (hndS park op.1.bs σ' J').2.2).length ≤ 140737488355328 := by have := hnd_len (bs := op.1.bs) z17.i; omega
              refine sameB_ok (sl17'.arb (by rw [List.length_set]; exact hpl)) (sl18.arb hpl2) fun w19 hk19 => ?_
              rw [decide_eq_true key]
              simp only [Bool.not_true, e_fd, e_nck, e_pkt, e_pkf, e_gdtt, e_gdtf, e_gdft, e_gdff, e_ift, e_iff, e_not, e_ln, e_lnT, e_cp, e_cvi, e_ex20, e_ex21, e_ex30, e_ex31, e_ex32, e_add, e_sub, e_mul, e_quo, e_rem, e_and, e_or, e_xor, e_shl, e_shr, e_eql, e_neq, e_lss, e_leq, e_gtr, e_geq, e_beq, e_bne, e_peq1, e_peq2, e_pne1, e_pne2, e_zeq1, e_zeq2, e_zne1, e_zne2, e_feq1, e_fne1, e_feq2, e_fne2, e_seq, e_sne, e_ta1, e_ta2, Nat.zero_add, Nat.add_zero, Bool.not_true, Bool.not_false]
              have hqq2 := hndS_q park op.1.bs σ' J'
              exact next (z18.emp hk19) (jl16.hnd park_cv park_mb (by decide) z17.i hp.2.1 (by omega)) (by omega)
            · simp only [hlt, decide_false, e_fd, e_nck, e_pkt, e_pkf, e_gdtt, e_gdtf, e_gdft, e_gdff, e_ift, e_iff, e_not, e_ln, e_lnT, e_cp, e_cvi, e_ex20, e_ex21, e_ex30, e_ex31, e_ex32, e_add, e_sub, e_mul, e_quo, e_rem, e_and, e_or, e_xor, e_shl, e_shr, e_eql, e_neq, e_lss, e_leq, e_gtr, e_geq, e_beq, e_bne, e_peq1, e_peq2, e_pne1, e_pne2, e_zeq1, e_zeq2, e_zne1, e_zne2, e_feq1, e_fne1, e_feq2, e_fne2, e_seq, e_sne, e_ta1, e_ta2, Nat.zero_add, Nat.add_zero, Bool.not_true, Bool.not_false]
              rw [if_neg (by omega)] at key
              refine ld1_r (v := op.2) r16b rfl ?_
              have szz17 := z16.k.size
              refine z16.send (by omega) (hp.1.kp' z16.k) (fun b q => by omega) hp.2.1 fun w18 v18 b18 S18 z18 sl18 hb18 hk18 hS18 hW18 => ?_
              have sl17' := sl16.kp hk18 fun c q => by cases q; exact hS18 _ (.inr rfl)
              have hpl2 : (eR (hndS park op.1.bs σ' J').2.2).length ≤ 140737488355328 := by rw [← key]; exact hpl
              refine sameB_ok (sl17'.arb hpl) (sl18.arb hpl2) fun w19 hk19 => ?_
              rw [decide_eq_true key]
              simp only [Bool.not_true, e_fd, e_nck, e_pkt, e_pkf, e_gdtt, e_gdtf, e_gdft, e_gdff, e_ift, e_iff, e_not, e_ln, e_lnT, e_cp, e_cvi, e_ex20, e_ex21, e_ex30, e_ex31, e_ex32, e_add, e_sub, e_mul, e_quo, e_rem, e_and, e_or, e_xor, e_shl, e_shr, e_eql, e_neq, e_lss, e_leq, e_gtr, e_geq, e_beq, e_bne, e_peq1, e_peq2, e_pne1, e_pne2, e_zeq1, e_zeq2, e_zne1, e_zne2, e_feq1, e_fne1, e_feq2, e_fne2, e_seq, e_sne, e_ta1, e_ta2, Nat.zero_add, Nat.add_zero, Bool.not_true, Bool.not_false]
              have hqq2 := hndS_q park op.1.bs σ' J'
              exact next (z18.emp hk19) (jl16.hnd park_cv park_mb (by decide) z16.i hp.2.1 (by omega)) (by omega)
          · simp only [h01, decide_false, Bool.not_false, e_fd, e_nck, e_pkt, e_pkf, e_gdtt, e_gdtf, e_gdft, e_gdff, e_ift, e_iff, e_not, e_ln, e_lnT, e_cp, e_cvi, e_ex20, e_ex21, e_ex30, e_ex31, e_ex32, e_add, e_sub, e_mul, e_quo, e_rem, e_and, e_or, e_xor, e_shl, e_shr, e_eql, e_neq, e_lss, e_leq, e_gtr, e_geq, e_beq, e_bne, e_peq1, e_peq2, e_pne1, e_pne2, e_zeq1, e_zeq2, e_zne1, e_zne2, e_feq1, e_fne1, e_feq2, e_fne2, e_seq, e_sne, e_ta1, e_ta2, Nat.zero_add, Nat.add_zero, Bool.not_true, Bool.not_false]
            exact other
        · have e0 : ¬ (((dec op.1.bs).2 : Nat) : Int) = 0 := by omega
          simp only [e0, decide_false, Bool.not_false, e_fd, e_nck, e_pkt, e_pkf, e_gdtt, e_gdtf, e_gdft, e_gdff, e_ift, e_iff, e_not, e_ln, e_lnT, e_cp, e_cvi, e_ex20, e_ex21, e_ex30, e_ex31, e_ex32, e_add, e_sub, e_mul, e_quo, e_rem, e_and, e_or, e_xor, e_shl, e_shr, e_eql, e_neq, e_lss, e_leq, e_gtr, e_geq, e_beq, e_bne, e_peq1, e_peq2, e_pne1, e_pne2, e_zeq1, e_zeq2, e_zne1, e_zne2, e_feq1, e_fne1, e_feq2, e_fne2, e_seq, e_sne, e_ta1, e_ta2, Nat.zero_add, Nat.add_zero, Bool.not_true, Bool.not_false]
          exact other
    · rintro l w3 ⟨σ, J, rfl, z3, jl3, hq3⟩ B
      rw [s13_p4_Fe]
      unfold s13_p3
      simp only [dnlt, e_fd, e_nck, e_pkt, e_pkf, e_gdtt, e_gdtf, e_gdft, e_gdff, e_ift, e_iff, e_not, e_ln, e_lnT, e_cp, e_cvi, e_ex20, e_ex21, e_ex30, e_ex31, e_ex32, e_add, e_sub, e_mul, e_quo, e_rem, e_and, e_or, e_xor, e_shl, e_shr, e_eql, e_neq, e_lss, e_leq, e_gtr, e_geq, e_beq, e_bne, e_peq1, e_peq2, e_pne1, e_pne2, e_zeq1, e_zeq2, e_zne1, e_zne2, e_feq1, e_fne1, e_feq2, e_fne2, e_seq, e_sne, e_ta1, e_ta2, Nat.zero_add, Nat.add_zero, Bool.not_true, Bool.not_false]
      unfold s13_p1
      exact ⟨rfl, z3.k.below'⟩
end
end Go.Proofs.Qxb6500896aGreat
