import Derived.Test.Qxb6500896aGreatN10
namespace Go.Proofs.Qxb6500896aGreat
open Go.Sh Go.RowKit
set_option linter.unusedVariables false
set_option linter.unusedSimpArgs false

section
variable {W w w' w1 : World} {V F G M : Nat → Prop} {r e j n : Nat} {σ : Sg} {J : Jr} {K : Value → World → Prop} {v v2 : Value} {lob : Option Nat} {xs ys : List Int} {m : Me} {C : Cfg} {l : List Value} {q : Rq}
theorem take_ne {i : Nat} (h1 : i < xs.length) (h2 : i < ys.length) (h : xs[i] ≠ ys[i]) : xs ≠ ys := fun e => h (by subst e; rfl)
theorem take_eq {i : Nat} (h1 : i < xs.length) (h2 : i < ys.length) (h : xs[i] = ys[i]) (h3 : xs.take i = ys.take i) : xs.take (i + 1) = ys.take (i + 1) := by
  rw [List.take_succ_eq_append_getElem h1, List.take_succ_eq_append_getElem h2, h, h3]
/-- two texts are compared -/
theorem sameB_ok (h1 : Ar bC 1 F w v xs) (h2 : Ar bC 1 G w v2 ys) (hK : ∀ w', Kp Emp w w' → K (.bool (decide (xs = ys))) w') : cl Tryz.prog 23 #[v, v2] K w := by
  apply c23
  unfold s23_p8
  have hl := h1.len
  have hl2 := h2.len
  refine h1.ln ?_
  refine h2.ln ?_
  simp only [nei, e_fd, e_nck, e_pkt, e_pkf, e_gdtt, e_gdtf, e_gdft, e_gdff, e_ift, e_iff, e_not, e_ln, e_lnT, e_cp, e_cvi, e_ex20, e_ex21, e_ex30, e_ex31, e_ex32, e_add, e_sub, e_mul, e_quo, e_rem, e_and, e_or, e_xor, e_shl, e_shr, e_eql, e_neq, e_lss, e_leq, e_gtr, e_geq, e_beq, e_bne, e_peq1, e_peq2, e_pne1, e_pne2, e_zeq1, e_zeq2, e_zne1, e_zne2, e_feq1, e_fne1, e_feq2, e_fne2, e_seq, e_sne, e_ta1, e_ta2, Nat.zero_add, Nat.add_zero, Bool.not_true, Bool.not_false]
  by_cases hlen : xs.length = ys.length
  · have e0 : decide (((xs.length : Nat) : Int) = ((ys.length : Nat) : Int)) = true := by simp [hlen]
    simp only [e0, Bool.not_true, e_fd, e_nck, e_pkt, e_pkf, e_gdtt, e_gdtf, e_gdft, e_gdff, e_ift, e_iff, e_not, e_ln, e_lnT, e_cp, e_cvi, e_ex20, e_ex21, e_ex30, e_ex31, e_ex32, e_add, e_sub, e_mul, e_quo, e_rem, e_and, e_or, e_xor, e_shl, e_shr, e_eql, e_neq, e_lss, e_leq, e_gtr, e_geq, e_beq, e_bne, e_peq1, e_peq2, e_pne1, e_pne2, e_zeq1, e_zeq2, e_zne1, e_zne2, e_feq1, e_fne1, e_feq2, e_fne2, e_seq, e_sne, e_ta1, e_ta2, Nat.zero_add, Nat.add_zero, Bool.not_true, Bool.not_false]
    refine h1.ln ?_
    unfold s23_p7
    refine loop_n xs.length (fun i l w' => l = [v, v2, I (xs.length : Nat), I (i : Nat)] ∧ Kp Emp w w' ∧ xs.take i = ys.take i) ⟨rfl, Kp.refl _ _, by simp⟩ ?_ ?_
    · rintro i l w3 hi ⟨rfl, hk3, ht⟩ B hB
      rw [s23_p7_Fe]
      unfold s23_p6
      simp only [dlt hi, e_fd, e_nck, e_pkt, e_pkf, e_gdtt, e_gdtf, e_gdft, e_gdff, e_ift, e_iff, e_not, e_ln, e_lnT, e_cp, e_cvi, e_ex20, e_ex21, e_ex30, e_ex31, e_ex32, e_add, e_sub, e_mul, e_quo, e_rem, e_and, e_or, e_xor, e_shl, e_shr, e_eql, e_neq, e_lss, e_leq, e_gtr, e_geq, e_beq, e_bne, e_peq1, e_peq2, e_pne1, e_pne2, e_zeq1, e_zeq2, e_zne1, e_zne2, e_feq1, e_fne1, e_feq2, e_fne2, e_seq, e_sne, e_ta1, e_ta2, Nat.zero_add, Nat.add_zero, Bool.not_true, Bool.not_false]
      unfold s23_p5 s23_p4 s23_p4_d
      have kd : Kp Emp w3 (drw w3) := kp_drw
      generalize drw w3 = w4 at kd ⊢
      have hk4 := hk3.trans kd
      refine (h1.kp' hk4).ix hi fun b1 o1 _ c1 => ?_
      refine c1.ld0 rfl ?_
      refine (h2.kp' hk4).ix (show i < ys.length by omega) fun b2 o2 _ c2 => ?_
      refine c2.ld0 rfl ?_
      simp only [nei, e_fd, e_nck, e_pkt, e_pkf, e_gdtt, e_gdtf, e_gdft, e_gdff, e_ift, e_iff, e_not, e_ln, e_lnT, e_cp, e_cvi, e_ex20, e_ex21, e_ex30, e_ex31, e_ex32, e_add, e_sub, e_mul, e_quo, e_rem, e_and, e_or, e_xor, e_shl, e_shr, e_eql, e_neq, e_lss, e_leq, e_gtr, e_geq, e_beq, e_bne, e_peq1, e_peq2, e_pne1, e_pne2, e_zeq1, e_zeq2, e_zne1, e_zne2, e_feq1, e_fne1, e_feq2, e_fne2, e_seq, e_sne, e_ta1, e_ta2, Nat.zero_add, Nat.add_zero, Bool.not_true, Bool.not_false]
      unfold s23_p3
      by_cases hxy : xs[i] = ys[i]'(by omega)
      · simp only [hxy, decide_true, Bool.not_true, e_fd, e_nck, e_pkt, e_pkf, e_gdtt, e_gdtf, e_gdft, e_gdff, e_ift, e_iff, e_not, e_ln, e_lnT, e_cp, e_cvi, e_ex20, e_ex21, e_ex30, e_ex31, e_ex32, e_add, e_sub, e_mul, e_quo, e_rem, e_and, e_or, e_xor, e_shl, e_shr, e_eql, e_neq, e_lss, e_leq, e_gtr, e_geq, e_beq, e_bne, e_peq1, e_peq2, e_pne1, e_pne2, e_zeq1, e_zeq2, e_zne1, e_zne2, e_feq1, e_fne1, e_feq2, e_fne2, e_seq, e_sne, e_ta1, e_ta2, Nat.zero_add, Nat.add_zero, Bool.not_true, Bool.not_false]
        unfold s23_p2
        try simp only [e_fd, e_nck, e_pkt, e_pkf, e_gdtt, e_gdtf, e_gdft, e_gdff, e_ift, e_iff, e_not, e_ln, e_lnT, e_cp, e_cvi, e_ex20, e_ex21, e_ex30, e_ex31, e_ex32, e_add, e_sub, e_mul, e_quo, e_rem, e_and, e_or, e_xor, e_shl, e_shr, e_eql, e_neq, e_lss, e_leq, e_gtr, e_geq, e_beq, e_bne, e_peq1, e_peq2, e_pne1, e_pne2, e_zeq1, e_zeq2, e_zne1, e_zne2, e_feq1, e_fne1, e_feq2, e_fne2, e_seq, e_sne, e_ta1, e_ta2, Nat.zero_add, Nat.add_zero, Bool.not_true, Bool.not_false]
        rw [inc i (by omega)]
        exact hB _ _ ⟨rfl, hk4, take_eq hi (by omega) hxy ht⟩
      · simp only [hxy, decide_false, Bool.not_false, e_fd, e_nck, e_pkt, e_pkf, e_gdtt, e_gdtf, e_gdft, e_gdff, e_ift, e_iff, e_not, e_ln, e_lnT, e_cp, e_cvi, e_ex20, e_ex21, e_ex30, e_ex31, e_ex32, e_add, e_sub, e_mul, e_quo, e_rem, e_and, e_or, e_xor, e_shl, e_shr, e_eql, e_neq, e_lss, e_leq, e_gtr, e_geq, e_beq, e_bne, e_peq1, e_peq2, e_pne1, e_pne2, e_zeq1, e_zeq2, e_zne1, e_zne2, e_feq1, e_fne1, e_feq2, e_fne2, e_seq, e_sne, e_ta1, e_ta2, Nat.zero_add, Nat.add_zero, Bool.not_true, Bool.not_false]
        have hK := hK w4 hk4
        rw [decide_eq_false (take_ne hi (by omega) hxy)] at hK
        exact hK
    · rintro l w3 ⟨rfl, hk3, ht⟩ B
      rw [s23_p7_Fe]
      unfold s23_p6
      simp only [dnlt, e_fd, e_nck, e_pkt, e_pkf, e_gdtt, e_gdtf, e_gdft, e_gdff, e_ift, e_iff, e_not, e_ln, e_lnT, e_cp, e_cvi, e_ex20, e_ex21, e_ex30, e_ex31, e_ex32, e_add, e_sub, e_mul, e_quo, e_rem, e_and, e_or, e_xor, e_shl, e_shr, e_eql, e_neq, e_lss, e_leq, e_gtr, e_geq, e_beq, e_bne, e_peq1, e_peq2, e_pne1, e_pne2, e_zeq1, e_zeq2, e_zne1, e_zne2, e_feq1, e_fne1, e_feq2, e_fne2, e_seq, e_sne, e_ta1, e_ta2, Nat.zero_add, Nat.add_zero, Bool.not_true, Bool.not_false]
      unfold s23_p1
      have hK := hK w3 hk3
      rw [List.take_of_length_le (Nat.le_refl _), List.take_of_length_le (by omega)] at ht
      rw [decide_eq_true ht] at hK
      exact hK
  · have e0 : decide (((xs.length : Nat) : Int) = ((ys.length : Nat) : Int)) = false := by simp; omega
    simp only [e0, Bool.not_false, e_fd, e_nck, e_pkt, e_pkf, e_gdtt, e_gdtf, e_gdft, e_gdff, e_ift, e_iff, e_not, e_ln, e_lnT, e_cp, e_cvi, e_ex20, e_ex21, e_ex30, e_ex31, e_ex32, e_add, e_sub, e_mul, e_quo, e_rem, e_and, e_or, e_xor, e_shl, e_shr, e_eql, e_neq, e_lss, e_leq, e_gtr, e_geq, e_beq, e_bne, e_peq1, e_peq2, e_pne1, e_pne2, e_zeq1, e_zeq2, e_zne1, e_zne2, e_feq1, e_fne1, e_feq2, e_fne2, e_seq, e_sne, e_ta1, e_ta2, Nat.zero_add, Nat.add_zero, Bool.not_true, Bool.not_false]
    have hK := hK w (Kp.refl _ _)
    rw [decide_eq_false (fun e => hlen (by rw [e]))] at hK
    exact hK
/-- a request is put into bytes -/
theorem ask_ok (hq : Qv F w l q) (hn : RqN q) (hx : xpr q = true) (hK : ∀ w' v' b, Sl bC 1 w' 5 (some b) v' (enc q) → Nb w w' b → Kp Emp w w' → K v' w') : cl Tryz.prog 57 #[.agg l.toArray] K w := by
  obtain ⟨lv, rfl, ha⟩ := hq
  apply c57
  unfold s57_p2
  refine nw_r fun w1 r1 hk1 hz1 => ?_
  replace r1 : Row w1 w.heap.size 52 (q.cells lv) := r1
  refine ldn_r r1 (show 0 + 8 ≤ 8 by decide) ?_
  refine encReq_ok (F := F) (l := q.cells lv) ⟨lv, rfl, ha.kp' hk1⟩ hn ⟨(fun e => by rw [hx] at e; cases e), fun _ w2 v2 b2 s2 hb2 hk2 => ?_⟩
  simp only [ex2_0, ex2_1, e_fd, e_nck, e_pkt, e_pkf, e_gdtt, e_gdtf, e_gdft, e_gdff, e_ift, e_iff, e_not, e_ln, e_lnT, e_cp, e_cvi, e_ex20, e_ex21, e_ex30, e_ex31, e_ex32, e_add, e_sub, e_mul, e_quo, e_rem, e_and, e_or, e_xor, e_shl, e_shr, e_eql, e_neq, e_lss, e_leq, e_gtr, e_geq, e_beq, e_bne, e_peq1, e_peq2, e_pne1, e_pne2, e_zeq1, e_zeq2, e_zne1, e_zne2, e_feq1, e_fne1, e_feq2, e_fne2, e_seq, e_sne, e_ta1, e_ta2, Nat.zero_add, Nat.add_zero, Bool.not_true, Bool.not_false]
  unfold s57_p1
  have := hb2.1
  exact hK w2 v2 b2 s2 ⟨by omega, hb2.2⟩ (hk1.trans hk2)
end
section
variable {W w w' w1 : World} {V F M : Nat → Prop} {r e j n : Nat} {σ : Sg} {J : Jr} {K : Value → World → Prop} {v : Value} {lob : Option Nat} {xs : List Op} {m : Me} {C : Cfg}
theorem qR_cnt (C : Cfg) (q : Rq) (σ : Sg) : (qR C q σ).cnt.length = 10 := by
  have h1 : (qGet q σ).cnt.length = 10 := by unfold qGet; split <;> rfl
  have h2 : (qList C q σ).cnt.length = 10 := rfl
  have h3 : (qSlot C q σ).cnt.length = 10 := rfl
  have h4 : (qLine q σ).cnt.length = 10 := rfl
  have h5 : (qClock C q σ).cnt.length = 10 := rfl
  have h6 : (qFind C q σ).cnt.length = 10 := by
    unfold qFind
    split
    · rfl
    · split <;> rfl
  have h7 : (qQuo C q σ).cnt.length = 10 := by unfold qQuo; split <;> rfl
  have h8 : (qCnt q σ).cnt.length = 10 := cnts_len σ.rs
  have h9 : (qPlace q σ).cnt.length = 10 := by
    unfold qPlace
    repeat' split
    all_goals rfl
  unfold qR
  by_cases c : q.op = 16; · rw [if_pos c]; exact h1
  rw [if_neg c]; clear c
  by_cases c : q.op = 17; · rw [if_pos c]; exact h2
  rw [if_neg c]; clear c
  by_cases c : q.op = 18; · rw [if_pos c]; exact h3
  rw [if_neg c]; clear c
  by_cases c : q.op = 19; · rw [if_pos c]; exact h4
  rw [if_neg c]; clear c
  by_cases c : q.op = 20; · rw [if_pos c]; exact h5
  rw [if_neg c]; clear c
  by_cases c : q.op = 21; · rw [if_pos c]; exact h6
  rw [if_neg c]; clear c
  by_cases c : q.op = 22; · rw [if_pos c]; exact h7
  rw [if_neg c]; clear c
  by_cases c : q.op = 23; · rw [if_pos c]; exact h8
  rw [if_neg c]; clear c
  by_cases c : q.op = 24; · rw [if_pos c]; exact h9
  rw [if_neg c]
  rfl
theorem ansS_cnt (C : Cfg) (q : Rq) (σ : Sg) : (ansS C q σ).2.cnt.length = 10 := by
  unfold ansS
  split
  · exact qR_cnt C q σ
  · rfl
theorem mvR_cnt (a b c : Int) : (mvR a b c).cnt.length = 10 := (mvR_p a b c).2.2.2
theorem apS_cnt (C : Cfg) (q : Rq) (σ : Sg) : (apS C q σ).2.cnt.length = 10 := by
  have h1 : (hoR C q σ).cnt.length = 10 := by unfold hoR; split <;> rfl
  have h2 : ∀ j, (joR q j).cnt.length = 10 := fun j => by unfold joR; split <;> rfl
  have h3 : (tkR C q σ).cnt.length = 10 := by unfold tkR; split <;> rfl
  unfold apS
  repeat' split
  all_goals first | exact h1 | exact h2 _ | exact h3 | exact mvR_cnt _ _ _ | rfl
theorem chgS_cnt (C : Cfg) (q : Rq) (σ : Sg) (J : Jr) : (chgS C q σ J).2.2.cnt.length = 10 := by
  unfold chgS
  simp only
  split
  · split
    · split
      · exact apS_cnt C q _
      · rfl
    · rfl
  · rfl
theorem stgS_cnt (C : Cfg) (q : Rq) (σ : Sg) (J : Jr) : (stgS C q σ J).2.2.cnt.length = 10 := by
  unfold stgS
  simp only
  repeat' split
  all_goals first | rfl | exact ansS_cnt C q _ | exact chgS_cnt C q _ J
theorem stbS_cnt (C : Cfg) (bs : List Int) (σ : Sg) (J : Jr) : (stbS C bs σ J).2.2.cnt.length = 10 := by
  unfold stbS
  repeat' split
  all_goals first | rfl | exact stgS_cnt C _ σ J
theorem hndS_cnt (C : Cfg) (bs : List Int) (σ : Sg) (J : Jr) : (hndS C bs σ J).2.2.cnt.length = 10 := by
  unfold hndS
  simp only
  split
  · exact stbS_cnt C bs σ J
  · rfl
theorem eR_len {p : Rp} (h : RpN p) (hc : p.cnt.length = 10) : (eR p).length ≤ 1000000000 := by
  have b1 := uI_len
  have b2 := encIss_len p.iss
  have b3 := encRs_len (rs := p.recs) fun r hr => (h.recs r hr).ll
  have b4 := encIds_len p.wt
  have b5 := encIds_len (p.cnt.drop 1)
  have b6 := h.il
  have b7 := h.rl
  have b8 := h.wl
  have b9 : (p.cnt.drop 1).length ≤ 10 := by rw [List.length_drop]; omega
  have b10 : (encRec (p.recs.head?.getD zRec)).length ≤ 207 := by
    apply encRec_len
    cases hp : p.recs with
    | nil => decide
    | cons r rs => exact (h.recs r (by rw [hp]; exact List.mem_cons_self)).ll
  have c1 := b1 p.id
  have c2 := b1 p.ex
  have c3 := b1 p.pos
  have c4 := b1 p.st
  have c5 := b1 p.now
  have c6 := b1 (p.iss.length : Nat)
  have c7 := b1 p.exd
  have c8 := b1 p.ns
  have c9 := b1 p.lp
  have c10 := b1 p.nx
  have c11 := b1 (p.recs.length : Nat)
  have c12 := b1 p.oc
  have c13 := b1 p.e0
  have c14 := b1 p.e1
  have c15 := b1 p.e2
  have c16 := b1 p.fr
  have c17 := b1 (p.wt.length : Nat)
  have c18 := b1 p.la
  have c19 := b1 p.gr
  have c20 := b1 p.sl
  have c21 := b1 p.at'
  have c22 := b1 p.ah
  have hB : (eB p).length ≤ 999999990 := by
    unfold eB
    by_cases c : p.op = 1 ∨ p.op = 22; · rw [if_pos c, List.length_append]; omega
    rw [if_neg c]; clear c
    by_cases c : p.op = 6; · rw [if_pos c, List.length_append]; omega
    rw [if_neg c]; clear c
    by_cases c : p.op = 2 ∨ p.op = 3 ∨ p.op = 4 ∨ p.op = 5 ∨ p.op = 7 ∨ p.op = 8; · rw [if_pos c]; omega
    rw [if_neg c]; clear c
    by_cases c : p.op = 9; · rw [if_pos c]; simp only [List.length_append]; omega
    rw [if_neg c]; clear c
    by_cases c : p.op = 16; · rw [if_pos c]; omega
    rw [if_neg c]; clear c
    by_cases c : p.op = 17; · rw [if_pos c]; simp only [List.length_append]; omega
    rw [if_neg c]; clear c
    by_cases c : p.op = 18; · rw [if_pos c]; simp only [List.length_append]; omega
    rw [if_neg c]; clear c
    by_cases c : p.op = 19; · rw [if_pos c]; simp only [List.length_append]; omega
    rw [if_neg c]; clear c
    by_cases c : p.op = 20; · rw [if_pos c]; simp only [List.length_append]; omega
    rw [if_neg c]; clear c
    by_cases c : p.op = 21; · rw [if_pos c]; omega
    rw [if_neg c]; clear c
    by_cases c : p.op = 23; · rw [if_pos c]; omega
    rw [if_neg c]; clear c
    by_cases c : p.op = 24; · rw [if_pos c]; simp only [List.length_append]; omega
    rw [if_neg c]
    decide
  unfold eR
  split
  · simp only [List.length_append, List.length_cons, List.length_nil]; omega
  · simp
theorem hnd_len {σ : Sg} {J : Jr} {bs : List Int} (h : RgI park σ J) : (eR (hndS park bs σ J).2.2).length ≤ 1000000000 := by
  refine eR_len ?_ (hndS_cnt park bs σ J)
  have hrp := stbS_rpn (J := J) (bs := bs) park_cv (by decide) fun _ => h.g
  unfold hndS
  simp only
  split
  · exact hrp
  · exact RpN.rf ⟨by decide, by decide⟩
theorem _root_.Go.Sh.Sl.arb {w : World} {T : TypeId} {b : Nat} {v : Value} {xs : List Int} (h : Sl bC 1 w T (some b) v xs) (hl : xs.length ≤ 140737488355328) : Ar bC 1 (fun c => c = b) w v xs := h.ar bC_len hl fun c q => by cases q; rfl
end
end Go.Proofs.Qxb6500896aGreat
