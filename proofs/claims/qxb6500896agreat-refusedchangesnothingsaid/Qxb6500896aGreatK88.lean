import Derived.Test.Qxb6500896aGreatK87
import Derived.Test.Qxb6500896aGreatGr
import Derived.Test.Qxb6500896aGreatK76
namespace Go.Proofs.Qxb6500896aGreat
open Go.Sh Go.RowKit
set_option linter.unusedVariables false
set_option linter.unusedSimpArgs false

section
variable {K : Value → World → Prop} {X : (Value → World → Prop) → World → Prop} {w : World} {a b : Value} {n : Nat}
theorem gt (h : X K w) : gd (.bool true) true X K w := ⟨h⟩
theorem gf (h : K undef w) : gd (.bool false) true X K w := ⟨h⟩
theorem pkt (h : K a w) : pk (.bool true) a b K w := h
theorem pkf (h : K b w) : pk (.bool false) a b K w := h
theorem nk (h : K (P n 0) w) : nck (P n 0) K w := h
end
theorem obs_len (now : Int) : (obs now).length ≤ 130 := by
  have h1 := obsI_len 28
  have h2 := obsA_len now 4
  unfold obs
  rw [List.length_append, List.length_append, h1]
  show 2 + 3 * 28 + _ ≤ 130
  omega
set_option maxRecDepth 100000 in
theorem fiCfg3 : fiK Tryz.prog 34 3 = some 3 := by kernel_rfl
/-- the last part of a round: is it a change, or was nothing changed -/
def refT (K : Value → World → Prop) (B1 : List Value → World → Prop) (t3 t16 t17 t18 t9 t32 t36 t42 : Value) (w : World) : Prop :=
  cl Tryz.prog 29 #[t36] (fun t62 w =>
  boI .eql t62 (.int .i64 0) (fun t63 w =>
  gd t63 true (fun K w => K t42 w) (fun t65 w =>
  gd t63 true (boI .eql t65 (.int .i64 0)) (fun t66 w =>
  pk t63 t66 (.bool false) (fun t67 w =>
  gd t67 true (fd 0 t9) (fun t69 w =>
  gd t67 true (ld1 t69) (fun t70 w =>
  gd t67 true (cl Tryz.prog 30 #[t70]) (fun t71 w =>
  pk t67 t71 (.bool false) (fun t72 w =>
  ifb t72
  (s4_p2 K B1 t3 t16 t17 t18 w)
  (cl Tryz.prog 26 #[(.func (.func 24) #[t3] #[])] (fun t76 w =>
  cl Tryz.prog 23 #[t32, t76] (fun t77 w =>
  un .not t77 (fun t78 w =>
  ifb t78
  (K (.bool false) w)
  (s4_p2 K B1 t3 t16 t17 t18 w)) w) w) w)) w) w) w) w) w) w) w) w) w
section
variable {W w w' w1 : World} {V F M : Nat → Prop} {r e j n : Nat} {σ σ0 : Sg} {J J0 : Jr} {K : Value → World → Prop} {B : List Value → World → Prop} {v : Value} {m : Me} {q : Rq} {p : Rp} {b1 b2 t9 f : Nat} {v32 v36 lv t16 t17 t18 : Value} {l : List Value}
theorem stay_sl {T : TypeId} {xs : List Int} (sl : Sl bC 1 w T (some b1) v xs) (hV : V b1) (st : Stay V w w') : Sl bC 1 w' T (some b1) v xs := by
  obtain ⟨cap, junk, h1, h2, h3, h4⟩ := sl
  exact ⟨cap, junk, h1, h2, h3, st.2 b1 hV _ _ h4⟩
theorem ref_tail (z : Lz W V w r e σ J) (hseq : σ.seq ≤ 1000000000) (slB : Sl bC 1 w 5 (some b1) v32 ((obs σ0.now).flatMap (ansE σ0 J0))) (hlB : ∀ q, (ansE σ0 J0 q).length ≤ 1000000000) (hb1 : V b1) (slR : Sl bC 1 w 5 (some b2) v36 (eR p)) (hp : 0 ≤ p.code ∧ p.code ≤ 255) (r9 : Row w t9 52 (q.cells lv))
    (hcore : ¬ (p.code = 0 ∧ f = 0 ∧ isC q.op = true) → (obs σ0.now).flatMap (ansE σ J) = (obs σ0.now).flatMap (ansE σ0 J0) ∧ σ.now = σ0.now)
    (next : ∀ w' V' σ', Lz W V' w' r e σ' J → Core σ σ' → s4_p2 K B (P r 0) t16 t17 t18 w') : refT K B (P r 0) t16 t17 t18 (P t9 0) v32 v36 (I ((f : Nat) : Int)) w := by
  unfold refT
  refine code_ok slR hp ?_
  have sgs := z.i.g.seq
  have sgn := z.i.g.now
  have hmc : park.mc = 36 := rfl
  rw [hmc] at sgn
  have ob : ∀ (h : ¬ (p.code = 0 ∧ f = 0 ∧ isC q.op = true)), cl Tryz.prog 26 #[(.func (.func 24) #[P r 0] #[])] (fun t76 w => cl Tryz.prog 23 #[v32, t76] (fun t77 w => un .not t77 (fun t78 w => ifb t78 (K (.bool false) w) (s4_p2 K B (P r 0) t16 t17 t18 w)) w) w) w := by
    intro h
    obtain ⟨h1, h2⟩ := hcore h
    have srv := Lz.srv (W := W) (r := r) (e := e) z.i z.lo hseq
    have hlen := z.i.g.len
    have hmb : park.mb = 26 := rfl
    rw [hmb] at hlen
    refine observe_ok srv ⟨σ, z, Core.refl σ⟩ (ansE_clk z.i z.lo (by omega)) ⟨sgn.1, by omega⟩ ⟨by omega, by omega⟩ ⟨by omega, by omega⟩ fun w2 v2 b2 V2 ⟨σ2, z2, c2⟩ hV2 hb2 hbn2 sl2 st2 => ?_
    rw [h2, h1] at sl2
    have ol := obs_len σ0.now
    have fl := fl_len hlB (obs σ0.now)
    refine sameB_ok ((stay_sl slB hb1 st2).arb (by omega)) (sl2.arb (by omega)) fun w3 hk3 => ?_
    rw [decide_eq_true rfl]
    simp only [Bool.not_true, e_not, e_iff]
    exact next w3 V2 σ2 (z2.emp hk3) c2
  by_cases c0 : p.code = 0
  · refine bo_yes (by rw [c0]; rfl) ?_
    refine gt ?_
    by_cases cf : f = 0
    · refine gt (bo_yes (by rw [cf]; rfl) ?_)
      refine pkt ?_
      refine gt (fdp ?_)
      refine gt (ld1_r (v := U8 q.op) r9 rfl ?_)
      refine gt (isC_ok ?_)
      refine pkt ?_
      cases hC : isC q.op with
      | true => exact next w V σ z (Core.refl σ)
      | false => exact ob fun ⟨_, _, q⟩ => by rw [hC] at q; cases q
    · refine gt (bo_no (by rw [beq_eq_false_iff_ne]; omega) ?_)
      refine pkt ?_
      refine gf (gf (gf (pkf ?_)))
      exact ob fun ⟨_, q, _⟩ => cf q
  · refine bo_no (by rw [beq_eq_false_iff_ne]; exact c0) ?_
    refine gf (gf (pkf ?_))
    refine gf (gf (gf (pkf ?_)))
    exact ob fun ⟨q, _⟩ => c0 q
end
section
variable {W w w' w1 : World} {V F M : Nat → Prop} {r e j n : Nat} {σ : Sg} {J : Jr} {K : Value → World → Prop} {v : Value} {lob : Option Nat} {xs : List Op} {m : Me} {C : Cfg}
set_option maxHeartbeats 2000000 in
theorem refused_walk (hs : Scr W v xs) : cl Tryz.prog 4 #[v] (fun e W' => e = .bool true ∧ Below W.heap.size W W') W := by
  apply c4
  unfold s4_p5
  refine small_ok hs (Kp.refl _ _) fun rr hr => ?_
  cases rr with
  | false =>
    simp only [Bool.not_false, e_fd, e_nck, e_pkt, e_pkf, e_gdtt, e_gdtf, e_gdft, e_gdff, e_ift, e_iff, e_not, e_ln, e_lnT, e_cp, e_cvi, e_ex20, e_ex21, e_ex30, e_ex31, e_ex32, e_add, e_sub, e_mul, e_quo, e_rem, e_and, e_or, e_xor, e_shl, e_shr, e_eql, e_neq, e_lss, e_leq, e_gtr, e_geq, e_beq, e_bne, e_peq1, e_peq2, e_pne1, e_pne2, e_zeq1, e_zeq2, e_zne1, e_zne2, e_feq1, e_fne1, e_feq2, e_fne2, e_seq, e_sne, e_ta1, e_ta2, Nat.zero_add, Nat.add_zero, Bool.not_true, Bool.not_false]
    exact ⟨trivial, (Kp.refl _ _).below'⟩
  | true =>
    obtain ⟨hxl, hbl⟩ := hr rfl
    simp only [Bool.not_true, e_fd, e_nck, e_pkt, e_pkf, e_gdtt, e_gdtf, e_gdft, e_gdff, e_ift, e_iff, e_not, e_ln, e_lnT, e_cp, e_cvi, e_ex20, e_ex21, e_ex30, e_ex31, e_ex32, e_add, e_sub, e_mul, e_quo, e_rem, e_and, e_or, e_xor, e_shl, e_shr, e_eql, e_neq, e_lss, e_leq, e_gtr, e_geq, e_beq, e_bne, e_peq1, e_peq2, e_pne1, e_pne2, e_zeq1, e_zeq2, e_zne1, e_zne2, e_feq1, e_fne1, e_feq2, e_fne2, e_seq, e_sne, e_ta1, e_ta2, Nat.zero_add, Nat.add_zero, Bool.not_true, Bool.not_false]
    refine pj_ok2 fun w1 hk1 => ?_
    refine newRig_ok ⟨by decide, by decide⟩ hk1 fun w2 r e z2 hk2 => ?_
    obtain ⟨its, h1, h2, h3⟩ := hs
    have hil : its.length = xs.length := by rw [← h1, List.length_map]
    have hbl' : ∀ p ∈ its, p.1.bs.length ≤ 65536 := fun p hp => hbl _ (by rw [← h1]; exact List.mem_map_of_mem hp)
    refine h2.ln ?_
    unfold s4_p4
    refine loop_n its.length (fun i l w' => ∃ σ J, l = [P r 0, v, I (its.length : Nat), I (i : Nat)] ∧ Lz W Emp w' r e σ J ∧ Jlm 48 72 1200 J ∧ σ.seq ≤ ((i : Nat) : Int)) ⟨_, _, rfl, z2, Jlm.zero.2 (by decide), by simp [sg0]⟩ ?_ ?_
    · rintro i l w3 hi ⟨σ, J, rfl, z3, jl3, hq3⟩ B hB
      rw [s4_p4_Fe]
      unfold s4_p3
      have hp := h3 _ (List.getElem_mem hi)
      have hbi := hbl' _ (List.getElem_mem hi)
      simp only [dlt hi, e_lss, e_ift]
      refine each_r rfl (h2.kp' z3.k) hi (opC_len _) (by simp only [opC, List.all_cons, List.all_nil, hp.1.scal]; rfl) fun w4 r4 hk4 hz4 => ?_
      have z4 := z3.new hk4 (Nat.le_refl _) (show w3.heap.size < w4.heap.size by omega)
      refine ldn_r r4 (show 0 + 4 ≤ 4 by decide) ?_
      refine isReq_ok (p := its[i]) fun w5 hk5 => ?_
      have z5 := z4.emp hk5
      have r5 := hk5.row' r4
      generalize its[i] = op at hp hbi r5 ⊢
      have next : ∀ {w6 : World} {V6 : Nat → Prop} {σ' : Sg} {J' : Jr}, Lz W V6 w6 r e σ' J' → Jlm 48 72 1200 J' → σ'.seq ≤ ((i + 1 : Nat) : Int) → s4_p2 (fun e W' => e = .bool true ∧ Below W.heap.size W W') B (P r 0) v (I (its.length : Nat)) (I (i : Nat)) w6 := fun {w6 V6 σ' J'} z6 jl6 hq6 => by
        unfold s4_p2
        try simp only [e_fd, e_nck, e_pkt, e_pkf, e_gdtt, e_gdtf, e_gdft, e_gdff, e_ift, e_iff, e_not, e_ln, e_lnT, e_cp, e_cvi, e_ex20, e_ex21, e_ex30, e_ex31, e_ex32, e_add, e_sub, e_mul, e_quo, e_rem, e_and, e_or, e_xor, e_shl, e_shr, e_eql, e_neq, e_lss, e_leq, e_gtr, e_geq, e_beq, e_bne, e_peq1, e_peq2, e_pne1, e_pne2, e_zeq1, e_zeq2, e_zne1, e_zne2, e_feq1, e_fne1, e_feq2, e_fne2, e_seq, e_sne, e_ta1, e_ta2, Nat.zero_add, Nat.add_zero, Bool.not_true, Bool.not_false]
        rw [inc i (by omega)]
        exact hB _ _ ⟨σ', J', rfl, z6.sub fun c q => q.elim, jl6, hq6⟩
      have sgs := z5.i.g.seq
      have sgn := z5.i.g.now
      have hlen := z5.i.g.len
      have hmc : park.mc = 36 := rfl
      have hmb : park.mb = 26 := rfl
      rw [hmc] at sgn
      rw [hmb] at hlen
      cases hk : (op.1.kind == 0 || op.1.kind == 4) with
      | false =>
        simp only [Bool.not_false, e_not, e_ift]
        exact next z5 jl3 (by omega)
      | true =>
        simp only [Bool.not_true, e_not, e_iff]
        refine nk (fdp ?_)
        obtain ⟨M, m, h, hr, hM, hV⟩ := id z5.ex
        refine ld1_r hr rfl ?_
        refine now_ok h ?_
        have srv := Lz.srv (W := W) (r := r) (e := e) z5.i z5.lo (by omega)
        refine observe_ok srv ⟨σ, z5, Core.refl σ⟩ (ansE_clk z5.i z5.lo (by omega)) ⟨sgn.1, by omega⟩ ⟨by omega, by omega⟩ ⟨by omega, by omega⟩ fun w6 v6 b6 V6 ⟨σ6, z6, c6⟩ hV6 hb6 hbn6 sl6 st6 => ?_
        have r6 := st6.2 _ (.inr rfl) _ _ r5
        have hq6 := c6.seq
        refine fdp ?_
        refine ld1_r (v := op.2) r6 rfl ?_
        have szz := z6.k.size
        have hqq := hndS_q park op.1.bs σ6 J
        refine z6.send (by omega) (hp.1.kp' z6.k) (fun b q => by omega) hp.2.1 fun w7 v7 b7 S7 z7 sl7 hb7 hk7 hS7 hW7 => ?_
        have r7 := hk7.row r6 (hS7 _ (hV6 _ (.inr rfl)))
        have sl67 := sl6.kp hk7 fun c q => by cases q; exact hS7 _ hb6
        refine fdp ?_
        refine ld1_r (v := op.2) r7 rfl ?_
        have szz7 := z7.k.size
        refine dec_ok (hp.1.kp' z7.k) hp.2.1 (fun b q => by omega) fun w8 l8 hk8 hq8 => ?_
        obtain ⟨lv8, rfl, hl8⟩ := hq8
        have z8 := z7.emp hk8
        simp only [ex2_0, ex2_1]
        refine nw_r fun w9 r9 hk9 hz9 => ?_
        refine stn_r (cs := (dec op.1.bs).1.cells lv8) r9 rfl (show 0 + 8 ≤ 8 by decide) (by unfold Rq.cells; simp only [List.all_cons, List.all_nil, hl8.scal]; rfl) fun w10 r10 hk10 hz10 => ?_
        replace r10 : Row w10 w8.heap.size 52 ((dec op.1.bs).1.cells lv8) := r10
        have z10 := (z8.new hk9 (Nat.le_refl _) (by omega)).wr hk10 fun b (q : b = _) => .inr q
        have k710 : Kp Emp w7 w10 := (hk8.trans hk9).then hk10 fun b hb (q : b = _) => by have := hk8.size; omega
        have sl6' := sl67.kp' k710
        have sl7' := sl7.kp' k710
        have jl7 := jl3.hnd park_cv park_mb (by decide) z6.i hp.2.1 (by omega)
        have rpn := hnd_rpn (bs := op.1.bs) z6.i
        have hcr := hnd_core (bs := op.1.bs) z6.i (by omega) hp.2.1
        have htk := tick_end (bs := op.1.bs) z6.i jl3 (by omega) hp.2.1
        have hlB : ∀ q, (ansE σ J q).length ≤ 1000000000 := fun q => hnd_len z5.i
        generalize hx : hndS park op.1.bs σ6 J = x at z7 z8 z10 sl7 sl7' jl7 rpn hcr htk hqq
        obtain ⟨σ7, J7, p⟩ := x
        simp only at z7 z8 z10 sl7 sl7' jl7 rpn hcr htk hqq
        have tail : ∀ w11, Kp Emp w10 w11 → refT (fun e W' => e = .bool true ∧ Below W.heap.size W W') B (P r 0) v (I (its.length : Nat)) (I (i : Nat)) (P w8.heap.size 0) v6 v7 (I (((dec op.1.bs).2 : Nat) : Int)) w11 := by
          intro w11 hk11
          have z11 := z10.emp hk11
          refine ref_tail (σ0 := σ) (J0 := J) (q := (dec op.1.bs).1) (p := p) (lv := lv8) z11 (by omega) (sl6'.kp' hk11) hlB (.inl (.inl hb6)) (sl7'.kp' hk11) ⟨rpn.code.1, rpn.code.2⟩ (hk11.row' r10) (fun hn => ?_) fun w12 V12 σ12 z12 c12 => next z12 jl7 (by have := c12.seq; omega)
          have c := hcr hn
          have cc : Core σ σ7 := c6.trans c
          exact ⟨obs_core ⟨sgn.1, by omega⟩ z5.i z5.lo (by omega) z11.i z11.lo (by omega) cc, cc.now⟩
        by_cases h0 : (dec op.1.bs).2 = 0
        · refine bo_yes (by rw [h0]; rfl) ?_
          refine gt (fdp ?_)
          refine gt (ld1_r (v := U8 (dec op.1.bs).1.op) r10 rfl ?_)
          by_cases h9 : (dec op.1.bs).1.op = 9
          · refine gt (bo_yes (by rw [h9]; rfl) ?_)
            refine pkt ?_
            refine gt ?_
            refine gt (park_ok fun w11 l11 hk11 hc11 => ?_)
            obtain ⟨va, vt, rfl, _⟩ := hc11.ex
            refine gt (fi_r (v := I 36) fiCfg3 (by rw [List.getElem?_toArray]; rfl) ?_)
            by_cases h36 : σ.now = 36
            · refine gt (bo_yes (by rw [h36]; rfl) ?_)
              refine pkt ?_
              refine gt ?_
              refine gt (code_ok (sl7'.kp' hk11) ⟨rpn.code.1, rpn.code.2⟩ ?_)
              rw [htk h0 h9 (by rw [c6.now]; exact h36)]
              refine gt ?_
              have e11 : ((11 : Int) != 11) = false := rfl
              simp only [e11, e_neq]
              refine pkt ?_
              exact tail w11 hk11
            · refine gt (bo_no (by rw [beq_eq_false_iff_ne]; exact h36) ?_)
              refine pkt ?_
              refine gf (gf (gf (pkf ?_)))
              exact tail w11 hk11
          · refine gt (bo_no (by rw [beq_eq_false_iff_ne]; exact h9) ?_)
            refine pkt ?_
            refine gf (gf (gf (gf (pkf ?_))))
            refine gf (gf (gf (pkf ?_)))
            exact tail w10 (Kp.refl _ _)
        · refine bo_no (by rw [beq_eq_false_iff_ne]; omega) ?_
          refine gf (gf (gf (pkf ?_)))
          refine gf (gf (gf (gf (pkf ?_))))
          refine gf (gf (gf (pkf ?_)))
          exact tail w10 (Kp.refl _ _)
    · rintro l w3 ⟨σ, J, rfl, z3, jl3, hq3⟩ B
      rw [s4_p4_Fe]
      unfold s4_p3
      simp only [dnlt, e_fd, e_nck, e_pkt, e_pkf, e_gdtt, e_gdtf, e_gdft, e_gdff, e_ift, e_iff, e_not, e_ln, e_lnT, e_cp, e_cvi, e_ex20, e_ex21, e_ex30, e_ex31, e_ex32, e_add, e_sub, e_mul, e_quo, e_rem, e_and, e_or, e_xor, e_shl, e_shr, e_eql, e_neq, e_lss, e_leq, e_gtr, e_geq, e_beq, e_bne, e_peq1, e_peq2, e_pne1, e_pne2, e_zeq1, e_zeq2, e_zne1, e_zne2, e_feq1, e_fne1, e_feq2, e_fne2, e_seq, e_sne, e_ta1, e_ta2, Nat.zero_add, Nat.add_zero, Bool.not_true, Bool.not_false]
      unfold s4_p1
      exact ⟨rfl, z3.k.below'⟩
end
end Go.Proofs.Qxb6500896aGreat
