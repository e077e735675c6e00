import Derived.Test.Qxb6500896aGreatM29
import Derived.Test.Qxb6500896aGreatGC
namespace Go.Proofs.Qxb6500896aGreat
open Go.Sh Go.RowKit
set_option linter.unusedVariables false
set_option linter.unusedSimpArgs false

theorem obsM_len (now : Int) : (obs now).length ≤ 130 := by
  have h1 := obsI_len 28
  have h2 := obsA_len now 4
  unfold obs
  rw [List.length_append, List.length_append, h1]
  show 2 + 3 * 28 + _ ≤ 130
  omega
section
variable {O G F S V V' : Nat → Prop} {W w w' w0 w1 : World} {r e m b1 b2 : Nat} {v v1 v2 : Value} {l : List Value} {K : Value → World → Prop} {σ σ' : Sg} {J J' : Jr} {bs : List Int} {q : Rq} {xs : List Op} {X : World → Prop}
theorem stayM_sl {T : TypeId} {xs : List Int} (sl : Sl bC 1 w T (some b1) v xs) (hV : V b1) (st : Stay V w w') : Sl bC 1 w' T (some b1) v xs := by
  obtain ⟨cap, junk, h1, h2, h3, h4⟩ := sl
  exact ⟨cap, junk, h1, h2, h3, st.2 b1 hV _ _ h4⟩
/-- rig and model answer all questions alike -/
theorem Zm.both (z : Zm W r e m σ J V w) (h : RgI park σ J) (hlo : σ.loose = 0) (hs : σ.seq ≤ 1000000000) (hK : ∀ w' V', Zm W r e m σ J V' w' → K (.bool true) w') :
    cl Tryz.prog 26 #[sendV r] (fun t35 w => cl Tryz.prog 26 #[hdlV m] (fun t38 w => cl Tryz.prog 23 #[t35, t38] K w) w) w := by
  have sgn := h.g.now
  have sgs := h.g.seq
  have hlen := h.g.len
  have hmc : park.mc = 36 := rfl
  have hmb : park.mb = 26 := rfl
  rw [hmc] at sgn
  rw [hmb] at hlen
  refine observe_ok (Zm.srvR h hlo hs) z (ansE_clk h hlo (by omega)) ⟨sgn.1, by omega⟩ ⟨by omega, by omega⟩ ⟨by omega, by omega⟩ fun w1 v1 b1 V1 z1 hV1 hb1 hbn1 sl1 st1 => ?_
  refine observe_ok (Zm.srvM h hlo hs) z1 (ansE_clk h hlo (by omega)) ⟨sgn.1, by omega⟩ ⟨by omega, by omega⟩ ⟨by omega, by omega⟩ fun w2 v2 b2 V2 z2 hV2 hb2 hbn2 sl2 st2 => ?_
  have ol := obsM_len σ.now
  have fl := fl_len (ans := ansE σ J) (fun q => hnd_len h) (obs σ.now)
  refine sameB_ok ((stayM_sl sl1 hb1 st2).arb (by omega)) (sl2.arb (by omega)) fun w3 hk3 => ?_
  rw [decide_eq_true rfl]
  exact hK w3 V2 (z2.emp hk3)
set_option maxHeartbeats 4000000 in
theorem refines_walk (hs : Scr W v xs) : cl Tryz.prog 3 #[v] (fun e W' => e = .bool true ∧ Below W.heap.size W W') W := by
  apply c3
  unfold s3_p8
  refine small_ok hs (Kp.refl _ _) fun rr hr => ?_
  cases rr with
  | false =>
    simp only [Bool.not_false, e_fd, e_nck, e_pkt, e_pkf, e_gdtt, e_gdtf, e_gdft, e_gdff, e_ift, e_iff, e_not, e_ln, e_lnT, e_cp, e_cvi, e_ex20, e_ex21, e_ex30, e_ex31, e_ex32, e_add, e_sub, e_mul, e_quo, e_rem, e_and, e_or, e_xor, e_shl, e_shr, e_eql, e_neq, e_lss, e_leq, e_gtr, e_geq, e_beq, e_bne, e_peq1, e_peq2, e_pne1, e_pne2, e_zeq1, e_zeq2, e_zne1, e_zne2, e_feq1, e_fne1, e_feq2, e_fne2, e_seq, e_sne, e_ta1, e_ta2, Nat.zero_add, Nat.add_zero, Bool.not_true, Bool.not_false]
    exact ⟨trivial, (Kp.refl _ _).below'⟩
  | true =>
    obtain ⟨hxl, hbl⟩ := hr rfl
    simp only [Bool.not_true, e_fd, e_nck, e_pkt, e_pkf, e_gdtt, e_gdtf, e_gdft, e_gdff, e_ift, e_iff, e_not, e_ln, e_lnT, e_cp, e_cvi, e_ex20, e_ex21, e_ex30, e_ex31, e_ex32, e_add, e_sub, e_mul, e_quo, e_rem, e_and, e_or, e_xor, e_shl, e_shr, e_eql, e_neq, e_lss, e_leq, e_gtr, e_geq, e_beq, e_bne, e_peq1, e_peq2, e_pne1, e_pne2, e_zeq1, e_zeq2, e_zne1, e_zne2, e_feq1, e_fne1, e_feq2, e_fne2, e_seq, e_sne, e_ta1, e_ta2, Nat.zero_add, Nat.add_zero, Bool.not_true, Bool.not_false]
    refine pj_ok2 fun w1 hk1 => ?_
    refine newRig_ok (W := W) ⟨by decide, by decide⟩ hk1 fun w2 r e z2 hk2 => ?_
    refine park_ok fun w3 l3 hk3 hc3 => ?_
    refine newM_ok hc3 (fun b q => q.2) fun w4 m mo4 hk4 => ?_
    have z4 : Lz W (fun b => False ∨ Nb w3 w4 b ∨ Nb w2 w3 b) w4 r e (sg0 park) (jr0 48 72 1200) := (z2.gro (S := Emp) (hk3.trans hk4) fun b q => q.elim).sub fun b q => by
      have s3 := hk3.size
      have s4 := hk4.size
      rcases q with q | q | q
      · exact .inl q
      · exact .inr ⟨by have := q.1; omega, q.2⟩
      · exact .inr ⟨q.1, by have := q.2; omega⟩
    obtain ⟨its, i1, i2, i3⟩ := hs
    have hil : its.length = xs.length := by rw [← i1, List.length_map]
    have hbl' : ∀ p ∈ its, p.1.bs.length ≤ 65536 := fun p hp => hbl _ (by rw [← i1]; exact List.mem_map_of_mem hp)
    refine i2.ln ?_
    unfold s3_p7
    refine loop_n its.length (fun i l w' => ∃ σ J, l = [P r 0, P m 0, v, I (its.length : Nat), I (i : Nat)] ∧ Zm W r e m σ J Emp w' ∧ Jlm 48 72 1200 J ∧ σ.seq ≤ ((i : Nat) : Int)) ⟨sg0 park, jr0 48 72 1200, rfl, ⟨_, _, _, z4, Core.refl _, mo4, fun b q => q.elim⟩, ⟨rfl, rfl, rfl, by decide⟩, by simp [sg0]⟩ ?_ ?_
    · rintro i l w5 hi ⟨σ0, J, rfl, z5, jl5, hq5⟩ B hB
      obtain ⟨O, G, σ, h5, c5, mo5, hd5⟩ := z5
      rw [← c5.ms] at mo5
      have hsq := c5.seq
      have z5 : Zm W r e m σ J Emp w5 := ⟨O, G, σ, h5, Core.refl _, mo5, hd5⟩
      have i5 := h5.i
      have l5 := h5.lo
      clear h5 mo5 hd5 c5
      rw [s3_p7_Fe]
      unfold s3_p6
      have hp := i3 _ (List.getElem_mem hi)
      have hbi := hbl' _ (List.getElem_mem hi)
      simp only [dlt hi, e_lss, e_ift]
      unfold s3_p5
      refine each_r rfl (i2.kp' z5.k) hi (opC_len _) (by simp only [opC, List.all_cons, List.all_nil, hp.1.scal]; rfl) fun w6 r6 hk6 hz6 => ?_
      have z6 := z5.new hk6 (Nat.le_refl _) (show w5.heap.size < w6.heap.size by omega)
      generalize its[i] = op at hp hbi r6 ⊢
      have next : ∀ {w' : World} {V' : Nat → Prop} {σ' : Sg} {J' : Jr}, Zm W r e m σ' J' V' w' → Jlm 48 72 1200 J' → σ'.seq ≤ ((i + 1 : Nat) : Int) → s3_p2 (fun e W' => e = .bool true ∧ Below W.heap.size W W') B (P r 0) (P m 0) v (I (its.length : Nat)) (I (i : Nat)) w' := fun {w' V' σ' J'} z' jl' hq' => by
        unfold s3_p2
        simp only [e_add]
        rw [inc i (by omega)]
        exact hB _ _ ⟨σ', J', rfl, z'.sub fun c q => q.elim, jl', hq'⟩
      refine ldn_r r6 (show 0 + 4 ≤ 4 by decide) ?_
      refine isReq_ok (p := op) fun w7 hk7 => ?_
      have z7 := z6.emp hk7
      have r7 := hk7.row' r6
      cases hk : (op.1.kind == 0 || op.1.kind == 4) with
      | false =>
        simp only [e_not, Bool.not_false, e_ift]
        exact next z7 jl5 (by omega)
      | true =>
        simp only [e_not, Bool.not_true, e_iff]
        unfold s3_p4
        have kd : Kp Emp w7 (drw w7) := kp_drw
        generalize drw w7 = w8 at kd ⊢
        have z8 := z7.emp kd
        have r8 := kd.row' r7
        have szW := z8.k.size
        refine ⟨fun w' => Row w' w5.heap.size 39 (opC op), r8, ?_⟩
        unfold s3_p4_d
        refine fdp (qw_i (v := op.2) (fun w' hJ => ld1_r hJ rfl ⟨rfl, rfl⟩) ?_)
        refine fdp (qw_i (v := op.2) (fun w' hJ => ld1_r hJ rfl ⟨rfl, rfl⟩) ?_)
        obtain ⟨O, G, σ', h8, c8, mo8, hd8⟩ := z8
        rw [← c8.ms] at mo8
        have hsq8 := c8.seq
        have sgs := h8.i.g.seq
        refine h8.send (by omega) (hp.1.kp' h8.k) (fun b q => by omega) hp.2.1 fun w9 v9 b9 S h9 sl9 hb9 hk9 hS9 hW9 => ?_
        refine ⟨hk9.row r8 (hS9 _ (.inl (.inr rfl))), ?_⟩
        have mo9 := mo8.kp hk9 fun b q => ⟨fun r => hS9 b (.inr (.inl r)) q, fun r => hS9 b (.inr (.inr r)) q⟩
        obtain ⟨ea, em⟩ := hnd_md0 h8.i jl5 hp.2.1 (by omega)
        have jl9 := jl5.hnd park_cv park_mb (by decide) h8.i hp.2.1 (by omega)
        have hqs := hndS_q park op.1.bs σ' J
        have h9' : Lz W (fun b => (b = b9) ∨ O b ∨ G b) w9 r e (hndS park op.1.bs σ' J).1 (hndS park op.1.bs σ' J).2.1 := h9.sub fun b q => by
          rcases q with q | q | q
          · exact .inr q
          · exact .inl (.inr (.inl q))
          · exact .inl (.inr (.inr q))
        refine h9'.hdl (σ := σ') mo9 (fun b (q : b = b9) => by
          subst q
          exact ⟨fun r => by have := mo8.lt b (.inl r); omega, fun r => by have := mo8.lt b (.inr r); omega⟩) h8.i.g (hp.1.kp' h9.k) (fun b q => by have := h9.k.size; omega) hp.2.1 (by omega) fun w10 v10 b10 S10 O10 h10 mo10 hd10 sl10 hb10 hk10 hS10 hW10 => ?_
        rw [← em] at mo10
        have sl9' := sl9.kp hk10 fun b e => by cases e; exact hS10 _ rfl
        rw [← ea] at sl10
        have hll := hnd_len (bs := op.1.bs) h8.i
        refine sameB_ok (sl9'.arb (by omega)) (sl10.arb (by omega)) fun w11 hk11 => ?_
        rw [decide_eq_true rfl]
        simp only [e_not, Bool.not_true]
        unfold s3_p3
        simp only [e_iff]
        have z11 : Zm W r e m (hndS park op.1.bs σ' J).1 (hndS park op.1.bs σ' J).2.1 (fun c => c = b9 ∨ c = b10) w11 := Zm.emp ⟨O10, G, _, h10, Core.refl _, mo10, hd10⟩ hk11
        refine z11.both h10.i h10.lo (by omega) fun w12 V12 z12 => ?_
        simp only [e_not, Bool.not_true, e_iff]
        exact next z12 jl9 (by omega)
    · rintro l w5 ⟨σ0, J, rfl, z5, jl5, hq5⟩ B
      rw [s3_p7_Fe]
      unfold s3_p6
      simp only [dnlt, e_lss, e_iff]
      unfold s3_p1
      exact ⟨rfl, z5.k.below'⟩
end
end Go.Proofs.Qxb6500896aGreat
