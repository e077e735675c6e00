import Derived.Test.Qxb6500896aGreatK91
import Derived.Test.Qxb6500896aGreatK88
namespace Go.Proofs.Qxb6500896aGreat
open Go.Sh Go.RowKit
set_option linter.unusedVariables false
set_option linter.unusedSimpArgs false

section
variable {K : Value → World → Prop} {X : (Value → World → Prop) → World → Prop} {w : World}
theorem gff (h : X K w) : gd (.bool false) false X K w := ⟨h⟩
theorem gft (h : K undef w) : gd (.bool true) false X K w := ⟨h⟩
end
/-- the same request with an id that has no bytes -/
def Rq.odd (q : Rq) : Rq := ⟨q.op, -1 - q.id, q.at', q.sl, q.cl, q.sz, q.li, q.legs⟩
theorem odd_x {q : Rq} (h : 0 ≤ q.id) : xpr q.odd = false := by
  have e : decide (0 ≤ q.odd.id) = false := decide_eq_false (by show ¬ (0 : Int) ≤ -1 - q.id; omega)
  unfold xpr
  rw [e]
  simp only [Bool.false_and]
theorem odd_n {q : Rq} (h : XprN q) : RqN q.odd := by
  have hh := h.rq
  have := h.id.1
  exact ⟨hh.op, by show -1 - q.id ≤ _; omega, hh.at', hh.sl, hh.cl, hh.sz, hh.li, hh.lg⟩
section
variable {W w w' w1 : World} {V U F M : Nat → Prop} {r1 e1 r2 e2 : Nat} {σ1 σ2 : Sg} {J : Jr} {K : Value → World → Prop} {v : Value} {xs : List Op} {m : Me} {C : Cfg}
/-- at the end both answer all alike -/
theorem do_end (z : Lz2 W V U w r1 e1 σ1 J r2 e2 σ2 J) (hsim : Sim σ1 σ2) (hseq : σ1.seq ≤ 1000000) (hK : ∀ w', Kp Emp W w' → K (.bool true) w') : s14_p1 K (P r1 0) (P r2 0) w := by
  unfold s14_p1
  have sgs := z.i1.g.seq
  have sgn := z.i1.g.now
  have hlen := z.i1.g.len
  have hmc : park.mc = 36 := rfl
  have hmb : park.mb = 26 := rfl
  rw [hmc] at sgn
  rw [hmb] at hlen
  have hs2 := hsim.core.seq
  have hn2 := hsim.core.now
  have hr2 := hsim.core.rs
  have srv := Lz2.srv (W := W) (r1 := r1) (e1 := e1) (r2 := r2) (e2 := e2) (σ2 := σ2) (J2 := J) (U := U) z.i1 z.lo1 (by omega)
  refine observe_ok srv ⟨σ1, z, Core.refl σ1⟩ (ansE_clk z.i1 z.lo1 (by omega)) ⟨sgn.1, by omega⟩ ⟨by omega, by omega⟩ ⟨by omega, by omega⟩ fun w1 v1 b1 V1 ⟨σ1', z1, c1⟩ hV1 hb1 hbn1 sl1 st1 => ?_
  have srv2 := Lz2.srv (W := W) (r1 := r2) (e1 := e2) (r2 := r1) (e2 := e1) (σ2 := σ1') (J2 := J) (U := U) z.i2 z.lo2 (by omega)
  refine observe_ok srv2 ⟨σ2, z1.swap, Core.refl σ2⟩ (ansE_clk z.i2 z.lo2 (by omega)) ⟨by omega, by omega⟩ ⟨by omega, by omega⟩ ⟨by omega, by rw [hr2]; omega⟩ fun w2 v2 b2 V2 ⟨σ2', z2, c2⟩ hV2 hb2 hbn2 sl2 st2 => ?_
  rw [hn2, obs_core ⟨sgn.1, by omega⟩ z.i1 z.lo1 (by omega) z.i2 z.lo2 (by omega) hsim.core] at sl2
  have ol := obs_len σ1.now
  have fl := fl_len (ans := ansE σ1 J) (fun q => hnd_len z.i1) (obs σ1.now)
  refine sameB_ok ((stay_sl sl1 hb1 st2).arb (by omega)) (sl2.arb (by omega)) fun w3 hk3 => ?_
  rw [decide_eq_true rfl]
  exact hK w3 (z2.k.trans hk3)
set_option maxHeartbeats 4000000 in
theorem do_walk (hs : Scr W v xs) : cl Tryz.prog 14 #[v] (fun e W' => e = .bool true ∧ Below W.heap.size W W') W := by
  apply c14
  unfold s14_p11
  refine small_ok hs (Kp.refl _ _) fun rr hr => ?_
  cases rr with
  | false =>
    simp only [Bool.not_false, e_fd, e_nck, e_pkt, e_pkf, e_gdtt, e_gdtf, e_gdft, e_gdff, e_ift, e_iff, e_not, e_ln, e_lnT, e_cp, e_cvi, e_ex20, e_ex21, e_ex30, e_ex31, e_ex32, e_add, e_sub, e_mul, e_quo, e_rem, e_and, e_or, e_xor, e_shl, e_shr, e_eql, e_neq, e_lss, e_leq, e_gtr, e_geq, e_beq, e_bne, e_peq1, e_peq2, e_pne1, e_pne2, e_zeq1, e_zeq2, e_zne1, e_zne2, e_feq1, e_fne1, e_feq2, e_fne2, e_seq, e_sne, e_ta1, e_ta2, Nat.zero_add, Nat.add_zero, Bool.not_true, Bool.not_false]
    exact ⟨trivial, (Kp.refl _ _).below'⟩
  | true =>
    obtain ⟨hxl, hbl⟩ := hr rfl
    simp only [Bool.not_true, e_fd, e_nck, e_pkt, e_pkf, e_gdtt, e_gdtf, e_gdft, e_gdff, e_ift, e_iff, e_not, e_ln, e_lnT, e_cp, e_cvi, e_ex20, e_ex21, e_ex30, e_ex31, e_ex32, e_add, e_sub, e_mul, e_quo, e_rem, e_and, e_or, e_xor, e_shl, e_shr, e_eql, e_neq, e_lss, e_leq, e_gtr, e_geq, e_beq, e_bne, e_peq1, e_peq2, e_pne1, e_pne2, e_zeq1, e_zeq2, e_zne1, e_zne2, e_feq1, e_fne1, e_feq2, e_fne2, e_seq, e_sne, e_ta1, e_ta2, Nat.zero_add, Nat.add_zero, Bool.not_true, Bool.not_false]
    refine pj_ok2 fun w1 hk1 => ?_
    refine newRigM_ok (M0 := Emp) ⟨by decide, by decide⟩ (fun b q => q.elim) fun w2 M2 r1 e1 m1 hx2 hk2 h1 q1 hr1 ho1 => ?_
    refine pj_ok2 fun w3 hk3 => ?_
    have s1 := hk1.size
    have s2 := hk2.size
    have s3 := hk3.size
    refine newRigM_ok (M0 := M2) ⟨by decide, by decide⟩ (fun b q => by have := h1.lt b q; omega) fun w4 M4 r2 e2 m2 hx4 hk4 h2 q2 hr2 ho2 => ?_
    have h1' := (h1.kp' hk3).ext hx4 hk4 (fun _ q => q.elim) (fun _ _ q => q)
    have z4 : Lz2 W Emp Emp w4 r1 e1 (sg0 park) (jr0 48 72 1200) r2 e2 (sg0 park) (jr0 48 72 1200) := by
      refine ⟨⟨M4, m1, m2, ⟨h1', h2⟩, ⟨hk4.row' (hk3.row' q1), q2⟩, fun b q => ?_, fun b q qq => ?_, fun c q => q.elim, fun c q => q.elim⟩, ((hk1.trans hk2).trans hk3).trans hk4, rgi0 _ _ _, rgi0 _ _ _, rfl, rfl, by omega, by omega⟩
      · rcases hx4.new b q with q | q
        · rcases hx2.new b q with q | q
          · exact q.elim
          · omega
        · omega
      · have := h1.lt b (h1.own q)
        have := ho2 b qq
        omega
    obtain ⟨its, i1, i2, i3⟩ := hs
    have hil : its.length = xs.length := by rw [← i1, List.length_map]
    have hbl' : ∀ p ∈ its, p.1.bs.length ≤ 65536 := fun p hp => hbl _ (by rw [← i1]; exact List.mem_map_of_mem hp)
    refine i2.ln ?_
    unfold s14_p10
    refine loop_n its.length (fun i l w' => ∃ σ1 σ2 J, l = [P r1 0, P r2 0, v, I (its.length : Nat), I (i : Nat)] ∧ Lz2 W Emp Emp w' r1 e1 σ1 J r2 e2 σ2 J ∧ Sim σ1 σ2 ∧ σ1.seq ≤ ((i : Nat) : Int)) ⟨_, _, _, rfl, z4, Sim.refl _, by simp [sg0]⟩ ?_ ?_
    · rintro i l w5 hi ⟨σ1, σ2, J, rfl, z5, sim5, hq5⟩ B hB
      rw [s14_p10_Fe]
      unfold s14_p9
      have hp := i3 _ (List.getElem_mem hi)
      have hbi := hbl' _ (List.getElem_mem hi)
      simp only [dlt hi, e_lss, e_ift]
      unfold s14_p8
      refine each_r rfl (i2.kp' z5.k) hi (opC_len _) (by simp only [opC, List.all_cons, List.all_nil, hp.1.scal]; rfl) fun w6 r6 hk6 hz6 => ?_
      have z6 := z5.new hk6 (Nat.le_refl _) (show w5.heap.size < w6.heap.size by omega)
      generalize its[i] = op at hp hbi r6 ⊢
      have next : ∀ {w' : World} {V' U' : Nat → Prop} {σ1' σ2' : Sg} {J' : Jr}, Lz2 W V' U' w' r1 e1 σ1' J' r2 e2 σ2' J' → Sim σ1' σ2' → σ1'.seq ≤ ((i + 1 : Nat) : Int) → s14_p2 (fun e W' => e = .bool true ∧ Below W.heap.size W W') B (P r1 0) (P r2 0) v (I (its.length : Nat)) (I (i : Nat)) w' := fun {w' V' U' σ1' σ2' J'} z' sim' hq' => by
        unfold s14_p2
        try simp only [e_fd, e_nck, e_pkt, e_pkf, e_gdtt, e_gdtf, e_gdft, e_gdff, e_ift, e_iff, e_not, e_ln, e_lnT, e_cp, e_cvi, e_ex20, e_ex21, e_ex30, e_ex31, e_ex32, e_add, e_sub, e_mul, e_quo, e_rem, e_and, e_or, e_xor, e_shl, e_shr, e_eql, e_neq, e_lss, e_leq, e_gtr, e_geq, e_beq, e_bne, e_peq1, e_peq2, e_pne1, e_pne2, e_zeq1, e_zeq2, e_zne1, e_zne2, e_feq1, e_fne1, e_feq2, e_fne2, e_seq, e_sne, e_ta1, e_ta2, Nat.zero_add, Nat.add_zero, Bool.not_true, Bool.not_false]
        rw [inc i (by omega)]
        exact hB _ _ ⟨σ1', σ2', J', rfl, (z'.sub fun c q => q.elim).subU fun c q => q.elim, sim', hq'⟩
      have sgs := z5.i1.g.seq
      have sgn := z5.i1.g.now
      have hs2 := sim5.core.seq
      refine fdp ?_
      refine ld1_r (v := op.2) r6 rfl ?_
      have szz := z6.k.size
      refine dec_ok (hp.1.kp' z6.k) hp.2.1 (fun b q => by omega) fun w7 l7 hk7 hq7 => ?_
      obtain ⟨lv, rfl, hl7⟩ := hq7
      have z7 := z6.im hk7
      have r7 := hk7.row' r6
      simp only [ex2_0, ex2_1]
      refine nw_r fun w8 r8 hk8 hz8 => ?_
      refine stn_r (cs := (dec op.1.bs).1.cells lv) r8 rfl (show 0 + 8 ≤ 8 by decide) (by unfold Rq.cells; simp only [List.all_cons, List.all_nil, hl7.scal]; rfl) fun w9 r9 hk9 hz9 => ?_
      replace r9 : Row w9 w7.heap.size 52 ((dec op.1.bs).1.cells lv) := r9
      have s7 := hk7.size
      have z9 := (z7.new hk8 (Nat.le_refl _) (by omega)).wr hk9 fun b (q : b = _) => .inr q
      have k79 : Kp Emp w7 w9 := hk8.then hk9 fun b hb (q : b = _) => by omega
      have r69 := k79.row' r7
      have hl9 := hl7.kp' k79
      refine ldn_r r69 (show 0 + 4 ≤ 4 by decide) ?_
      refine isReq_ok (p := op) fun w10 hk10 => ?_
      have z10 := z9.emp hk10
      have r610 := hk10.row' r69
      have r10 := hk10.row' r9
      have hl10 := hl9.kp' hk10
      cases hk : (op.1.kind == 0 || op.1.kind == 4) with
      | false =>
        simp only [Bool.not_false, e_not]
        refine gft (gft (pkt ?_))
        exact next z10 sim5 (by omega)
      | true =>
        simp only [Bool.not_true, e_not]
        refine gff ?_
        refine gff ?_
        by_cases h0 : (dec op.1.bs).2 = 0
        · have e0 : (((((dec op.1.bs).2 : Nat) : Int)) != 0) = false := by rw [h0]; rfl
          simp only [e0, e_neq]
          refine pkf ?_
          refine sw_f ?_
          have hN := dec_x h0
          have hid := hN.id
          refine ldn_r r10 (show 0 + 8 ≤ 8 by decide) ?_
          refine nw_r fun w11 r11 hk11 hz11 => ?_
          refine stn_r (cs := (dec op.1.bs).1.cells lv) r11 rfl (show 0 + 8 ≤ 8 by decide) (by unfold Rq.cells; simp only [List.all_cons, List.all_nil, hl7.scal]; rfl) fun w12 r12 hk12 hz12 => ?_
          replace r12 : Row w12 w10.heap.size 52 ((dec op.1.bs).1.cells lv) := r12
          have z12 := (z10.new hk11 (Nat.le_refl _) (by omega)).wr hk12 fun b (q : b = _) => .inr q
          have k12 : Kp Emp w10 w12 := hk11.then hk12 fun b hb (q : b = _) => by omega
          have r712 := k12.row' r10
          have r612 := k12.row' r610
          have hl12 := hl10.kp' k12
          have sz10 := hk10.size
          have n79 : w7.heap.size < w9.heap.size := r9.lt
          unfold s14_p7 s14_p7_d
          have kd : Kp Emp w12 (drw w12) := kp_drw
          generalize drw w12 = w13 at kd ⊢
          have z13 := z12.emp kd
          have r713 := kd.row' r712
          have r613 := kd.row' r612
          have r13 := kd.row' r12
          have hl13 := hl12.kp' kd
          refine ⟨fun w' => Row w' w7.heap.size 52 ((dec op.1.bs).1.cells lv), r713, ?_⟩
          refine fdp ?_
          refine ⟨_, fun w' hJ => ld1_r (v := I (dec op.1.bs).1.id) hJ rfl ⟨rfl, rfl⟩, ?_⟩
          try simp only [e_fd, e_nck, e_pkt, e_pkf, e_gdtt, e_gdtf, e_gdft, e_gdff, e_ift, e_iff, e_not, e_ln, e_lnT, e_cp, e_cvi, e_ex20, e_ex21, e_ex30, e_ex31, e_ex32, e_add, e_sub, e_mul, e_quo, e_rem, e_and, e_or, e_xor, e_shl, e_shr, e_eql, e_neq, e_lss, e_leq, e_gtr, e_geq, e_beq, e_bne, e_peq1, e_peq2, e_pne1, e_pne2, e_zeq1, e_zeq2, e_zne1, e_zne2, e_feq1, e_fne1, e_feq2, e_fne2, e_seq, e_sne, e_ta1, e_ta2, Nat.zero_add, Nat.add_zero, Bool.not_true, Bool.not_false]
          rw [wrap64_id (by have := hid.1; have := hid.2; omega) (by have := hid.1; omega)]
          refine ⟨_, fun w' hJ => ld1_r (v := I (dec op.1.bs).1.sz) hJ rfl ⟨rfl, rfl⟩, ?_⟩
          try simp only [e_fd, e_nck, e_pkt, e_pkf, e_gdtt, e_gdtf, e_gdft, e_gdff, e_ift, e_iff, e_not, e_ln, e_lnT, e_cp, e_cvi, e_ex20, e_ex21, e_ex30, e_ex31, e_ex32, e_add, e_sub, e_mul, e_quo, e_rem, e_and, e_or, e_xor, e_shl, e_shr, e_eql, e_neq, e_lss, e_leq, e_gtr, e_geq, e_beq, e_bne, e_peq1, e_peq2, e_pne1, e_pne2, e_zeq1, e_zeq2, e_zne1, e_zne2, e_feq1, e_fne1, e_feq2, e_fne2, e_seq, e_sne, e_ta1, e_ta2, Nat.zero_add, Nat.add_zero, Bool.not_true, Bool.not_false]
          refine st1_r r13 (show 1 < 8 by decide) rfl fun w14 r14 hk14 hz14 => ?_
          refine ⟨hk14.row r713 (show ¬ w7.heap.size = w10.heap.size by omega), ?_⟩
          refine st1_r r14 (show 5 < 8 by decide) rfl fun w15 r15 hk15 hz15 => ?_
          replace r15 : Row w15 w10.heap.size 52 ((dec op.1.bs).1.odd.cells lv) := r15
          have z15 := (z13.wr hk14 fun b (q : b = _) => .inr q).wr hk15 fun b (q : b = _) => .inr q
          have k15 : Kp (fun b => b = w10.heap.size) w13 w15 := hk14.trans hk15
          have r715 := k15.row r713 (show ¬ w7.heap.size = w10.heap.size by omega)
          have r615 := k15.row r613 (show ¬ w5.heap.size = w10.heap.size by omega)
          have hl15 := hl13.kp k15 fun b hb (q : b = _) => by have := hb.2; omega
          unfold s14_p6 s14_p6_d
          have kd2 : Kp Emp w15 (drw w15) := kp_drw
          generalize drw w15 = w16 at kd2 ⊢
          have z16 := z15.emp kd2
          have r16 := kd2.row' r15
          have r716 := kd2.row' r715
          have r616 := kd2.row' r615
          have hl16 := hl15.kp' kd2
          obtain ⟨M, m1', m2', hh, ⟨qa, qb⟩, _⟩ := z16.ex
          refine nk (fdp ?_)
          refine ld1_r qb rfl ?_
          refine ldn_r r16 (show 0 + 8 ≤ 8 by decide) ?_
          show cl Tryz.prog 58 #[P e2 0, .agg ((dec op.1.bs).1.odd.cells lv).toArray] _ w16
          have ox := odd_x hid.1
          obtain ⟨o1, o2⟩ := do_odd (q := (dec op.1.bs).1.odd) z16.i2 z16.lo2 ox
          refine z16.swap.doV (q := (dec op.1.bs).1.odd) (by omega) (hl16.mono fun b hb => .inr hb) (odd_n hN) (fun e => by rw [ox] at e; cases e) fun w17 l17 F17 S17 z17 rv17 hF17 hk17 hV17 hU17 hW17 => ?_
          rw [o2] at z17 rv17
          simp only at z17 rv17
          obtain ⟨iv, rv, wv, el17, _⟩ := rv17
          refine fi_r (v := I 1) fiRep0 (by rw [List.getElem?_toArray, el17]; rfl) ?_
          have e1 : ((1 : Int) != 1) = false := rfl
          simp only [e1, e_neq]
          unfold s14_p5
          refine sw_f ?_
          generalize (doS park (dec op.1.bs).1.odd σ2 J).1 = σ3 at o1 z17
          have sim3 : Sim σ1 σ3 := sim5.trans o1
          have hs3 := sim3.core.seq
          have z17' := z17.swap
          have r717 := hk17.row r716 (hV17 _ (.inl (.inr rfl)))
          have r617 := hk17.row r616 (hV17 _ (.inl (.inl (.inr rfl))))
          have hl17 := hl16.kp hk17 fun b hb => hU17 b (.inr hb)
          unfold s14_p4 s14_p4_d
          have kd3 : Kp Emp w17 (drw w17) := kp_drw
          generalize drw w17 = w18 at kd3 ⊢
          have z18 := z17'.emp kd3
          have r718 := kd3.row' r717
          have r618 := kd3.row' r617
          have hl18 := hl17.kp' kd3
          obtain ⟨M, m1'', m2'', hh, ⟨qa, qb⟩, _⟩ := z18.ex
          refine ⟨fun w' => Row w' w5.heap.size 39 (opC op) ∧ (∃ x, Row w' r2 47 [x, P e2 0]) ∧ Row w' w7.heap.size 52 ((dec op.1.bs).1.cells lv), ⟨r618, ⟨_, qb⟩, r718⟩, ?_⟩
          refine fdp ?_
          refine ⟨_, fun w' hJ => ld1_r (v := op.2) hJ.1 rfl ⟨rfl, rfl⟩, ?_⟩
          refine nk (fdp ?_)
          refine ⟨P e2 0, fun w' hJ => by obtain ⟨x, hx⟩ := hJ.2.1; exact ld1_r hx rfl ⟨rfl, rfl⟩, ?_⟩
          refine ⟨.agg ((dec op.1.bs).1.cells lv).toArray, fun w' hJ => ldn_r hJ.2.2 (show 0 + 8 ≤ 8 by decide) ⟨rfl, rfl⟩, ?_⟩
          have szz18 := z18.k.size
          refine z18.send (by omega) (hp.1.kp' z18.k) (fun b q => by omega) hp.2.1 fun w19 v19 b19 S19 z19 sl19 hb19 hk19 hS19 hSU19 hW19 => ?_
          have r719 := hk19.row r718 (hS19 _ (.inl (.inr rfl)))
          have r619 := hk19.row r618 (hS19 _ (.inl (.inl (.inr rfl))))
          have hqq := hndS_q park op.1.bs σ1 J
          have hl19 := hl18.kp hk19 fun b hb => hSU19 b (.inr hb)
          obtain ⟨M, m1a, m2a, hh, ⟨qa, qb⟩, _⟩ := id z19.ex
          refine ⟨⟨r619, ⟨_, qb⟩, r719⟩, ?_⟩
          have hd := sim3.do (C := park) (q := (dec op.1.bs).1) (J := J)
          rw [hnd_do z18.i1.dn h0] at z19 sl19 hqq
          have hri := z18.i2.do (q := (dec op.1.bs).1) hN.rq (fun _ => Rb.of hp.2.1 h0) (by omega)
          refine z19.swap.doV (q := (dec op.1.bs).1) (by omega) (hl19.mono fun b hb => .inr hb) hN.rq (fun _ => Rb.of hp.2.1 h0) fun w20 l20 F20 S20 z20 rv20 hF20 hk20 hV20 hU20 hW20 => ?_
          refine encRep_ok hri.2.2 rv20 (fun b hb => (hF20 b hb).2) fun w21 v21 b21 sl21 hb21 hk21 => ?_
          have sl19' := (sl19.kp hk20 fun c q => by cases q; exact hV20 _ (.inr rfl)).kp' hk21
          rw [hd.2] at sl21 z20
          have hl := hnd_len (bs := op.1.bs) z18.i1
          rw [hnd_do z18.i1.dn h0] at hl
          refine sameB_ok (sl19'.arb (by omega)) (sl21.arb (by omega)) fun w22 hk22 => ?_
          rw [decide_eq_true rfl]
          simp only [Bool.not_true, e_not]
          unfold s14_p3
          refine sw_f ?_
          exact next ((z20.swap.emp hk21).emp hk22) hd.1 (by omega)
        · have e0 : (((((dec op.1.bs).2 : Nat) : Int)) != 0) = true := by simpa using h0
          simp only [e0, e_neq]
          refine pkf ?_
          refine sw_t ?_
          exact next z10 sim5 (by omega)
    · rintro l w5 ⟨σ1, σ2, J, rfl, z5, sim5, hq5⟩ B
      rw [s14_p10_Fe]
      unfold s14_p9
      simp only [dnlt, e_lss, e_iff]
      exact do_end z5 sim5 (by omega) fun w' hk => ⟨rfl, hk.below'⟩
end
end Go.Proofs.Qxb6500896aGreat
