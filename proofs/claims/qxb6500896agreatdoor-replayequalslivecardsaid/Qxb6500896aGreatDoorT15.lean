import Derived.Test.Qxb6500896aGreatDoorT14
import Derived.Test.Qxb6500896aGreatDoorGu
namespace Go.Proofs.Qxb6500896aGreatDoor
open Go.Sh Go.RowKit
set_option linter.unusedVariables false
set_option linter.unusedSimpArgs false

section
variable {W w w' w1 : World} {V F M : Nat → Prop} {r e1 e2 n : Nat} {σ σ1 σ2 : Sg} {J J1 : Jr} {K : Value → World → Prop} {B : List Value → World → Prop} {v t14 t15 t16 : Value} {xs : List Op}
/-- the trace, and the same answers -/
theorem rep3 {t8 : Int} (z : LzE W V w r e1 σ1 J1 e2 σ2 J1) (hc : Core σ1 σ2) (hseq : σ1.seq ≤ 1000000) (jl : Jlm 48 72 1200 J1) (ht8 : t8 = (((if J1.has = true then 1 else 0) + J1.log.length : Nat) : Int))
    (next : ∀ w' V' σ', Lz W V' w' r e1 σ' J1 → Core σ1 σ' → s4_p2 K B (P r 0) t14 t15 t16 w') : s4_p3 K B (P r 0) (P e2 0) (I t8) t14 t15 t16 w := by
  unfold s4_p3
  obtain ⟨M, m1, m2, ⟨h1, h2⟩, q1, hM, hd, hV⟩ := id z.ex
  refine nk (fdp ?_)
  refine ld1_r (v := P m1.j 0) q1 rfl ?_
  have hlt := len_tot J1.log
  have htt := jl.tt
  have hx1 : ∀ x ∈ J1.log, x.length ≤ tot J1.log := by
    have : ∀ (l : List (List Int)) (x : List Int), x ∈ l → x.length ≤ tot l := by
      intro l
      induction l with
      | nil => intro x hx; cases hx
      | cons y l ih =>
        intro x hx
        have e : tot (y :: l) = (y.length + 6) + tot l := by simp [tot]
        rcases List.mem_cons.1 hx with q | q
        · subst q; omega
        · have := ih x q; omega
    exact this J1.log
  refine trace_ok h1.jn z.i1.jb (fun x hx => by have := hx1 x hx; omega) fun w1 tv ob svs hk1 sl1 hsl => ?_
  refine sl1.ln ?_
  have e0 : (((svs.length : Nat) : Int) != t8) = false := by rw [ht8, hsl]; simp
  simp only [e_neq, e0, e_iff]
  have z1 := z.emp hk1
  have sgs := z.i1.g.seq
  have sgn := z.i1.g.now
  have hlen := z.i1.g.len
  have hmc : park.mc = 36 := rfl
  have hmb : park.mb = 26 := rfl
  rw [hmc] at sgn
  rw [hmb] at hlen
  have cn := hc.now
  have cs := hc.seq
  have cr := hc.rs
  have srv := LzE.srv (W := W) (r := r) (e1 := e1) (σ1 := σ1) (J1 := J1) (e2 := e2) z1.i2 z1.lo2 (by omega)
  refine observe_ok srv ⟨σ2, z1, Core.refl σ2⟩ (ansE_clk z1.i2 z1.lo2 (by omega)) ⟨by omega, by omega⟩ ⟨by omega, by omega⟩ ⟨by omega, by rw [cr]; omega⟩ fun w2 v2 b2 V2 ⟨σ3, z2, c2⟩ hV2 hb2 hbn2 sl2 st2 => ?_
  have z3 := z2.fst
  have srv2 := Lz.srv (W := W) (r := r) (e := e1) z3.i z3.lo (by omega)
  refine observe_ok srv2 ⟨σ1, z3, Core.refl σ1⟩ (ansE_clk z3.i z3.lo (by omega)) ⟨by omega, by omega⟩ ⟨by omega, by omega⟩ ⟨by omega, by omega⟩ fun w4 v4 b4 V4 ⟨σ4, z4, c4⟩ hV4 hb4 hbn4 sl4 st4 => ?_
  have slA := stay_sl sl2 hb2 st4
  have eo := obs_core (now := σ1.now) ⟨by omega, by omega⟩ z.i1 z.lo1 (by omega) z.i2 z.lo2 (by omega) hc
  rw [cn, eo] at slA
  have ol := obs_len σ1.now
  have fl := fl_len (fun q => hnd_len z.i1) (obs σ1.now) (ans := ansE σ1 J1)
  refine sameB_ok (slA.arb (by omega)) (sl4.arb (by omega)) fun w5 hk5 => ?_
  rw [decide_eq_true rfl]
  simp only [Bool.not_true, e_not, e_iff]
  exact next w5 V4 σ4 (z4.emp hk5) c4
theorem rep4 (z : LzE W V w r e1 σ1 J1 e2 σ2 J1) (hc : Core σ1 σ2) (hseq : σ1.seq ≤ 1000000) (jl : Jlm 48 72 1200 J1) (hsp : σ2.sp = ((J1.log.length : Nat) : Int)) (hres : σ2.res = J1.has) (ht : J1.log.length < 6)
    (next : ∀ w' V' σ', Lz W V' w' r e1 σ' J1 → Core σ1 σ' → s4_p2 K B (P r 0) t14 t15 t16 w') : s4_p4 K B (P r 0) (P e2 0) t14 t15 t16 (.bool false) w := by
  unfold s4_p4
  simp only [e_iff]
  obtain ⟨M, m1, m2, ⟨h1, h2⟩, q1, hM, hd, hV⟩ := id z.ex
  refine stats_ok h2 fun w1 hk1 => ?_
  refine fi_r (v := I σ2.sp) fiStat4 (by rw [List.getElem?_toArray]; rfl) ?_
  refine stats_ok (h2.kp' hk1) fun w2 hk2 => ?_
  refine fi_r (v := .bool σ2.res) fiStat5 (by rw [List.getElem?_toArray]; rfl) ?_
  have z2 := (z.emp hk1).emp hk2
  rw [hres, hsp]
  cases hh : J1.has with
  | true =>
    simp only [e_ift, e_add]
    rw [wrap64_id (by omega) (by omega)]
    exact rep3 z2 hc hseq jl (by rw [if_pos hh]; omega) next
  | false =>
    simp only [e_iff]
    exact rep3 z2 hc hseq jl (by rw [if_neg (by rw [hh]; decide)]; omega) next
theorem rep5 (z : LzE W V w r e1 σ1 J1 e2 σ2 J1) (hc : Core σ1 σ2) (hseq : σ1.seq ≤ 1000000) (jl : Jlm 48 72 1200 J1) (hsp : σ2.sp = ((J1.log.length : Nat) : Int)) (hres : σ2.res = J1.has) (ht : J1.log.length < 6)
    (next : ∀ w' V' σ', Lz W V' w' r e1 σ' J1 → Core σ1 σ' → s4_p2 K B (P r 0) t14 t15 t16 w') : s4_p5 K B (P r 0) (P e2 0) .nilIface t14 t15 t16 w := by
  unfold s4_p5 s4_p5_d
  have kd : Kp Emp w (drw w) := kp_drw
  generalize drw w = w0 at kd ⊢
  have z0 := z.emp kd
  obtain ⟨M, m1, m2, ⟨h1, h2⟩, q1, hM, hd, hV⟩ := id z0.ex
  have e0 : ((σ2.seq) != (σ1.seq)) = false := by rw [hc.seq]; simp
  simp only [e_fne1]
  refine gff (gff (gff (nk (gff (fdp (gff (ld1_r (v := P e1 0) q1 rfl ?_)))))))
  refine gff (logged_ok h2 ⟨(Kp.refl _ _).below', ?_⟩)
  refine gff (logged_ok h1 ?_)
  refine gff ?_
  simp only [e_neq, e0]
  refine pkf ?_
  refine gff (gff ?_)
  refine stats_ok h2 fun w1 hk1 => ?_
  have z1 := z0.emp hk1
  have eg : decide (((6 : Int)) ≤ σ2.sp) = false := by rw [hsp]; exact decide_eq_false (by omega)
  have f4 : ∀ {X : Value → World → Prop} {w : World}, X (I σ2.sp) w → fi Tryz.prog 81 (.agg σ2.sts.toArray) 4 X w := fun h => fi_r (v := I σ2.sp) fiStat4 (by rw [List.getElem?_toArray]; rfl) h
  refine ⟨gff (f4 (gff (park_ok fun w2 l2 hk2 hc2 => ?_))), gff (park_ok fun w2 l2 hk2 hc2 => ?_)⟩
  · obtain ⟨va, vt, rfl, _⟩ := hc2.ex
    refine gff (fi_r (v := I 6) fiCfg13 (by rw [List.getElem?_toArray]; rfl) ?_)
    refine gff ?_
    simp only [e_geq, eg]
    exact pkf (rep4 (z1.emp hk2) hc hseq jl hsp hres ht next)
  · obtain ⟨va, vt, rfl, _⟩ := hc2.ex
    have f13 : ∀ {X : Value → World → Prop} {w : World}, X (I 6) w → fi Tryz.prog 75 (.agg (park.cells va vt).toArray) 13 X w := fun h => fi_r (v := I 6) fiCfg13 (by rw [List.getElem?_toArray]; rfl) h
    refine ⟨gff (f4 (gff (f13 (gff ?_)))), gff (f13 (gff (f4 (gff ?_))))⟩
    · simp only [e_geq, eg]
      exact pkf (rep4 (z1.emp hk2) hc hseq jl hsp hres ht next)
    · simp only [e_geq, eg]
      exact pkf (rep4 (z1.emp hk2) hc hseq jl hsp hres ht next)
theorem rep6 (z : Lz W V w r e1 σ1 J1) (hseq : σ1.seq ≤ 1000000) (jl : Jlm 48 72 1200 J1) (ht : J1.log.length < 6)
    (next : ∀ w' V' σ', Lz W V' w' r e1 σ' J1 → Core σ1 σ' → s4_p2 K B (P r 0) t14 t15 t16 w') : s4_p6 K B (P r 0) t14 t15 t16 w := by
  unfold s4_p6 s4_p6_d
  have kd : Kp Emp w (drw w) := kp_drw
  generalize drw w = w0 at kd ⊢
  have z0 := z.emp kd
  obtain ⟨M, m, h, hr, hM, hV⟩ := z0.ex
  refine nk (fdp (ld1_r (v := P m.j 0) hr rfl ?_))
  refine second_ok h rfl hr hM hV z0.k z0.i z0.lo z0.r0 ht fun w2 e2 σ2 z2 c2 hsp hres => ?_
  simp only [ex2_0, ex2_1, and_self]
  exact rep5 z2 c2 hseq jl hsp hres ht next
set_option maxHeartbeats 2000000 in
theorem replay_walk (hs : Scr W v xs) : cl Tryz.prog 4 #[v] (fun e W' => e = .bool true ∧ Below W.heap.size W W') W := by
  apply c4
  unfold s4_p10
  refine small_ok hs (Kp.refl _ _) fun rr hr => ?_
  cases rr with
  | false =>
    simp only [Bool.not_false, e_fd, e_nck, e_pkt, e_pkf, e_gdtt, e_gdtf, e_gdft, e_gdff, e_ift, e_iff, e_not, e_ln, e_lnT, e_cp, e_cvi, e_ex20, e_ex21, e_ex30, e_ex31, e_ex32, e_add, e_sub, e_mul, e_quo, e_rem, e_and, e_or, e_xor, e_shl, e_shr, e_eql, e_neq, e_lss, e_leq, e_gtr, e_geq, e_beq, e_bne, e_peq1, e_peq2, e_pne1, e_pne2, e_zeq1, e_zeq2, e_zne1, e_zne2, e_feq1, e_fne1, e_feq2, e_fne2, e_seq, e_sne, e_ta1, e_ta2, Nat.zero_add, Nat.add_zero, Bool.not_true, Bool.not_false]
    exact ⟨trivial, (Kp.refl _ _).below'⟩
  | true =>
    obtain ⟨hxl, hbl⟩ := hr rfl
    simp only [Bool.not_true, e_fd, e_nck, e_pkt, e_pkf, e_gdtt, e_gdtf, e_gdft, e_gdff, e_ift, e_iff, e_not, e_ln, e_lnT, e_cp, e_cvi, e_ex20, e_ex21, e_ex30, e_ex31, e_ex32, e_add, e_sub, e_mul, e_quo, e_rem, e_and, e_or, e_xor, e_shl, e_shr, e_eql, e_neq, e_lss, e_leq, e_gtr, e_geq, e_beq, e_bne, e_peq1, e_peq2, e_pne1, e_pne2, e_zeq1, e_zeq2, e_zne1, e_zne2, e_feq1, e_fne1, e_feq2, e_fne2, e_seq, e_sne, e_ta1, e_ta2, Nat.zero_add, Nat.add_zero, Bool.not_true, Bool.not_false]
    refine pj_ok2 fun w1 hk1 => ?_
    refine newRig_ok ⟨by decide, by decide⟩ hk1 fun w2 r e z2 hk2 => ?_
    obtain ⟨its, h1, h2, h3⟩ := hs
    have hil : its.length = xs.length := by rw [← h1, List.length_map]
    refine h2.ln ?_
    unfold s4_p9
    refine loop_n its.length (fun i l w' => ∃ σ J, l = [P r 0, v, I (its.length : Nat), I (i : Nat)] ∧ Lz W Emp w' r e σ J ∧ Jlm 48 72 1200 J ∧ J.log.length < 6 ∧ σ.seq ≤ ((i : Nat) : Int)) ⟨_, _, rfl, z2, Jlm.zero.2 (by decide), by simp [jr0], by simp [sg0]⟩ ?_ ?_
    · rintro i l w3 hi ⟨σ, J, rfl, z3, jl3, ht3, hq3⟩ B hB
      rw [s4_p9_Fe]
      unfold s4_p8
      have hp := h3 _ (List.getElem_mem hi)
      simp only [dlt hi, e_lss, e_ift]
      unfold s4_p7
      refine each_r rfl (h2.kp' z3.k) hi (opC_len _) (by simp only [opC, List.all_cons, List.all_nil, hp.1.scal]; rfl) fun w4 r4 hk4 hz4 => ?_
      have z4 := z3.new hk4 (Nat.le_refl _) (show w3.heap.size < w4.heap.size by omega)
      refine ldn_r r4 (show 0 + 4 ≤ 4 by decide) ?_
      refine isReq_ok (p := its[i]) fun w5 hk5 => ?_
      have z5 := z4.emp hk5
      have r5 := hk5.row' r4
      generalize its[i] = op at hp r5 ⊢
      have next : ∀ {w6 : World} {V6 : Nat → Prop} {σ' : Sg} {J' : Jr}, Lz W V6 w6 r e σ' J' → Jlm 48 72 1200 J' → J'.log.length < 6 → σ'.seq ≤ ((i + 1 : Nat) : Int) → s4_p2 (fun e W' => e = .bool true ∧ Below W.heap.size W W') B (P r 0) v (I (its.length : Nat)) (I (i : Nat)) w6 := fun {w6 V6 σ' J'} z6 jl6 ht6 hq6 => by
        unfold s4_p2
        try simp only [e_fd, e_nck, e_pkt, e_pkf, e_gdtt, e_gdtf, e_gdft, e_gdff, e_ift, e_iff, e_not, e_ln, e_lnT, e_cp, e_cvi, e_ex20, e_ex21, e_ex30, e_ex31, e_ex32, e_add, e_sub, e_mul, e_quo, e_rem, e_and, e_or, e_xor, e_shl, e_shr, e_eql, e_neq, e_lss, e_leq, e_gtr, e_geq, e_beq, e_bne, e_peq1, e_peq2, e_pne1, e_pne2, e_zeq1, e_zeq2, e_zne1, e_zne2, e_feq1, e_fne1, e_feq2, e_fne2, e_seq, e_sne, e_ta1, e_ta2, Nat.zero_add, Nat.add_zero, Bool.not_true, Bool.not_false]
        rw [inc i (by omega)]
        exact hB _ _ ⟨σ', J', rfl, z6.sub fun c q => q.elim, jl6, ht6, hq6⟩
      cases hk : (op.1.kind == 0 || op.1.kind == 4) with
      | false =>
        simp only [Bool.not_false, e_not, e_ift]
        exact next z5 jl3 ht3 (by omega)
      | true =>
        simp only [Bool.not_true, e_not, e_iff]
        refine fdp ?_
        refine ld1_r (v := op.2) r5 rfl ?_
        have szz := z5.k.size
        have hqq := hndS_q park op.1.bs σ J
        refine z5.send (by omega) (hp.1.kp' z5.k) (fun b q => by omega) hp.2.1 fun w7 v7 b7 S7 z7 sl7 hb7 hk7 hS7 hW7 => ?_
        have jl7 := jl3.hnd park_cv park_mb (by decide) z5.i hp.2.1 (by omega)
        have ht7 := park_tail z5.i jl3 ht3 hp.2.1 (by omega)
        exact rep6 z7 (by omega) jl7 ht7 fun w8 V8 σ8 z8 c8 => next z8 jl7 ht7 (by have := c8.seq; omega)
    · rintro l w3 ⟨σ, J, rfl, z3, jl3, ht3, hq3⟩ B
      rw [s4_p9_Fe]
      unfold s4_p8
      simp only [dnlt, e_lss, e_iff]
      unfold s4_p1
      exact ⟨rfl, z3.k.below'⟩
end
end Go.Proofs.Qxb6500896aGreatDoor
