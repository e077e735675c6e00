import Derived.Test.Qxb6500896aGreatM30
import Derived.Test.Qxb6500896aGreatM31
import Derived.Test.Qxb6500896aGreatGD
namespace Go.Proofs.Qxb6500896aGreat
open Go.Sh Go.RowKit
set_option linter.unusedVariables false
set_option linter.unusedSimpArgs false

section
variable {O G F S V V' : Nat → Prop} {W w w' w0 w1 : World} {r e m b1 b2 : Nat} {v v1 v2 : Value} {l : List Value} {K : Value → World → Prop} {σ σ' : Sg} {J J' : Jr} {bs : List Int} {q : Rq} {xs : List Op} {X : World → Prop}
theorem Jlm.ll {a b c : Int} (h : Jlm a b c J) (hb : b ≤ 1000) : J.log.length ≤ 1000 := by
  have := h.tt
  have := len_tot J.log
  omega
set_option maxHeartbeats 4000000 in
theorem full_end (z : Lz W V w r e σ J) (ht : J.log.length ≤ 1000) (hs : σ.seq ≤ 1000000000) : s12_p2 (fun e W' => e = .bool true ∧ Below W.heap.size W W') (P r 0) w := by
  unfold s12_p2
  have kd : Kp Emp w (drw w) := kp_drw
  generalize drw w = w1 at kd ⊢
  have z1 := z.emp kd
  obtain ⟨M, me, h, hr, hM, hV⟩ := z1.ex
  refine ⟨fun w' => Row w' r 47 [P me.j 0, P e 0], hr, ?_⟩
  unfold s12_p2_d
  refine nk0 (fdp (qw_i (v := P me.j 0) (fun w' hJ => ld1_r hJ rfl ⟨rfl, rfl⟩) ?_))
  refine second_ok h rfl hr hM hV z1.k z1.i z1.lo z1.r0 ht (fun w' hk => hk.row' hr) fun w2 e2 σ2 J2 z2 c2 hk2 => ?_
  have sgn := z1.i.g.now
  have sgs := z1.i.g.seq
  have hlen := z1.i.g.len
  have hmc : park.mc = 36 := rfl
  have hmb : park.mb = 26 := rfl
  rw [hmc] at sgn
  rw [hmb] at hlen
  have hs2 := c2.seq
  have hn2 := c2.now
  have hr2 := c2.rs
  have fin : s12_p1 (fun e W' => e = .bool true ∧ Below W.heap.size W W') (P r 0) (P e2 0) .nilIface w2 := by
    unfold s12_p1
    simp only [e_feq1, e_gdtt, e_pkt]
    refine observe_ok (LzE.srv (W := W) (r := r) (e1 := e) (σ1 := σ) (J1 := J) (e2 := e2) z2.i2 z2.lo2 (by omega)) ⟨σ2, z2, Core.refl σ2⟩ (ansE_clk z2.i2 z2.lo2 (by omega)) ⟨by omega, by omega⟩ ⟨by omega, by omega⟩ ⟨by omega, by rw [hr2]; omega⟩ fun w3 v3 b3 V3 ⟨σ3, z3, c3⟩ hV3 hb3 hbn3 sl3 st3 => ?_
    refine observe_ok (Lz.srv (W := W) (r := r) (e := e) z1.i z1.lo (by omega)) ⟨σ, z3.fst, Core.refl σ⟩ (ansE_clk z1.i z1.lo (by omega)) ⟨by omega, by omega⟩ ⟨by omega, by omega⟩ ⟨by omega, by omega⟩ fun w4 v4 b4 V4 ⟨σ4, z4, c4⟩ hV4 hb4 hbn4 sl4 st4 => ?_
    rw [hn2, obs_core ⟨sgn.1, by omega⟩ z1.i z1.lo (by omega) z2.i2 z2.lo2 (by omega) c2] at sl3
    have ol := obsM_len σ.now
    have fl := fl_len (ans := ansE σ J) (fun q => hnd_len z1.i) (obs σ.now)
    refine sameB_ok ((stayM_sl sl3 hb3 st4).arb (by omega)) (sl4.arb (by omega)) fun w5 hk5 => ?_
    rw [decide_eq_true rfl]
    exact ⟨rfl, (z4.k.trans hk5).below'⟩
  simp only [ex2_0, ex2_1]
  exact ⟨⟨fin, fin⟩, fin⟩
set_option maxHeartbeats 4000000 in
theorem full_walk (hs : Scr W v xs) : cl Tryz.prog 12 #[v] (fun e W' => e = .bool true ∧ Below W.heap.size W W') W := by
  apply c12
  unfold s12_p6
  refine small_ok hs (Kp.refl _ _) fun rr hr => ?_
  cases rr with
  | false =>
    simp only [Bool.not_false, e_fd, e_nck, e_pkt, e_pkf, e_gdtt, e_gdtf, e_gdft, e_gdff, e_ift, e_iff, e_not, e_ln, e_lnT, e_cp, e_cvi, e_ex20, e_ex21, e_ex30, e_ex31, e_ex32, e_add, e_sub, e_mul, e_quo, e_rem, e_and, e_or, e_xor, e_shl, e_shr, e_eql, e_neq, e_lss, e_leq, e_gtr, e_geq, e_beq, e_bne, e_peq1, e_peq2, e_pne1, e_pne2, e_zeq1, e_zeq2, e_zne1, e_zne2, e_feq1, e_fne1, e_feq2, e_fne2, e_seq, e_sne, e_ta1, e_ta2, Nat.zero_add, Nat.add_zero, Bool.not_true, Bool.not_false]
    exact ⟨trivial, (Kp.refl _ _).below'⟩
  | true =>
    obtain ⟨hxl, hbl⟩ := hr rfl
    simp only [Bool.not_true, e_not, e_iff]
    refine bdq_r (l := [I 20, I 70, I 60]) rfl ?_
    refine newRig_ok (W := W) ⟨by decide, by decide⟩ (Kp.refl _ _) fun w2 r e z2 hk2 => ?_
    refine park_ok fun w3 l3 hk3 hc3 => ?_
    refine newM_ok hc3 (fun b q => q.2) fun w4 m mo4 hk4 => ?_
    have z4 : Lz W (fun b => False ∨ Nb w3 w4 b ∨ Nb w2 w3 b) w4 r e (sg0 park) (jr0 20 70 60) := (z2.gro (S := Emp) (hk3.trans hk4) fun b q => q.elim).sub fun b q => by
      have s3 := hk3.size
      have s4 := hk4.size
      rcases q with q | q | q
      · exact .inl q
      · exact .inr ⟨by have := q.1; omega, q.2⟩
      · exact .inr ⟨q.1, by have := q.2; omega⟩
    obtain ⟨its, i1, i2, i3⟩ := hs
    have hil : its.length = xs.length := by rw [← i1, List.length_map]
    have hbl' : ∀ p ∈ its, p.1.bs.length ≤ 65536 := fun p hp => hbl _ (by rw [← i1]; exact List.mem_map_of_mem hp)
    refine i2.ln ?_
    unfold s12_p5
    refine loop_n its.length (fun i l w' => ∃ σ J, l = [P r 0, P m 0, v, I (its.length : Nat), I (i : Nat)] ∧ Zm W r e m σ J Emp w' ∧ Jlm 20 70 60 J ∧ σ.seq ≤ ((i : Nat) : Int)) ⟨sg0 park, jr0 20 70 60, rfl, ⟨_, _, _, z4, Core.refl _, mo4, fun b q => q.elim⟩, ⟨rfl, rfl, rfl, by decide⟩, by simp [sg0]⟩ ?_ ?_
    · rintro i l w5 hi ⟨σ0, J, rfl, z5, jl5, hq5⟩ B hB
      obtain ⟨O, G, σ, h5, c5, mo5, hd5⟩ := z5
      rw [← c5.ms] at mo5
      have hsq := c5.seq
      have z5 : Zm W r e m σ J Emp w5 := ⟨O, G, σ, h5, Core.refl _, mo5, hd5⟩
      clear h5 mo5 hd5 c5
      rw [s12_p5_Fe]
      unfold s12_p4
      have hp := i3 _ (List.getElem_mem hi)
      have hbi := hbl' _ (List.getElem_mem hi)
      simp only [dlt hi, e_lss, e_ift]
      refine each_r rfl (i2.kp' z5.k) hi (opC_len _) (by simp only [opC, List.all_cons, List.all_nil, hp.1.scal]; rfl) fun w6 r6 hk6 hz6 => ?_
      have z6 := z5.new hk6 (Nat.le_refl _) (show w5.heap.size < w6.heap.size by omega)
      generalize its[i] = op at hp hbi r6 ⊢
      have next : ∀ {w' : World} {V' : Nat → Prop} {σ' : Sg} {J' : Jr}, Zm W r e m σ' J' V' w' → Jlm 20 70 60 J' → σ'.seq ≤ ((i + 1 : Nat) : Int) → s12_p3 (fun e W' => e = .bool true ∧ Below W.heap.size W W') B (P r 0) (P m 0) v (I (its.length : Nat)) (I (i : Nat)) w' := fun {w' V' σ' J'} z' jl' hq' => by
        unfold s12_p3
        simp only [e_add]
        rw [inc i (by omega)]
        exact hB _ _ ⟨σ', J', rfl, z'.sub fun c q => q.elim, jl', hq'⟩
      refine ldn_r r6 (show 0 + 4 ≤ 4 by decide) ?_
      refine isReq_ok (p := op) fun w7 hk7 => ?_
      have z7 := z6.emp hk7
      have r7 := hk7.row' r6
      cases hk : (op.1.kind == 0 || op.1.kind == 4) with
      | false =>
        simp only [e_not, Bool.not_false, e_ift]
        exact next z7 jl5 (by omega)
      | true =>
        simp only [e_not, Bool.not_true, e_iff]
        have szW := z7.k.size
        refine fdp (ld1_r (v := op.2) r7 rfl ?_)
        obtain ⟨O, G, σ', h8, c8, mo8, hd8⟩ := z7
        rw [← c8.ms] at mo8
        have hsq8 := c8.seq
        have sgs := h8.i.g.seq
        refine h8.send (by omega) (hp.1.kp' h8.k) (fun b q => by omega) hp.2.1 fun w9 v9 b9 S h9 sl9 hb9 hk9 hS9 hW9 => ?_
        have r9 := hk9.row r7 (hS9 _ (.inl (.inr rfl)))
        have mo9 := mo8.kp hk9 fun b q => ⟨fun r => hS9 b (.inr (.inl r)) q, fun r => hS9 b (.inr (.inr r)) q⟩
        have jl9 := jl5.hnd park_cv park_mb (by decide) h8.i hp.2.1 (by omega)
        have hqs := hndS_q park op.1.bs σ' J
        have hrp := hnd_rpn (bs := op.1.bs) h8.i
        have h9' : Lz W (fun b => (b = b9) ∨ O b ∨ G b) w9 r e (hndS park op.1.bs σ' J).1 (hndS park op.1.bs σ' J).2.1 := h9.sub fun b q => by
          rcases q with q | q | q
          · exact .inr q
          · exact .inl (.inr (.inl q))
          · exact .inl (.inr (.inr q))
        have hd9 : ∀ b, b = b9 → ¬ O b ∧ ¬ G b := fun b (q : b = b9) => by
          subst q
          exact ⟨fun r => by have := mo8.lt b (.inl r); omega, fun r => by have := mo8.lt b (.inr r); omega⟩
        refine code_ok sl9 hrp.code ?_
        simp only [e_neq]
        have obs2 : ∀ {w' : World} {V' : Nat → Prop}, Zm W r e m (hndS park op.1.bs σ' J).1 (hndS park op.1.bs σ' J).2.1 V' w' → cl Tryz.prog 26 #[sendV r] (fun t44 w => cl Tryz.prog 26 #[hdlV m] (fun t47 w => cl Tryz.prog 23 #[t44, t47] (fun t48 w => un .not t48 (fun t49 w => ifb t49 ((Value.bool false) = .bool true ∧ Below W.heap.size W w) (s12_p3 (fun e W' => e = .bool true ∧ Below W.heap.size W W') B (P r 0) (P m 0) v (I (its.length : Nat)) (I (i : Nat)) w)) w) w) w) w' := fun {w' V'} z' => by
          refine z'.both h9'.i h9'.lo (by omega) fun w12 V12 z12 => ?_
          simp only [e_not, Bool.not_true, e_iff]
          exact next z12 jl9 (by omega)
        by_cases hc : (hndS park op.1.bs σ' J).2.2.code = 17
        · have e0 : ((hndS park op.1.bs σ' J).2.2.code != 17) = false := by rw [hc]; rfl
          simp only [e0, e_gdft, e_pkf, e_iff]
          have core := hnd_core (bs := op.1.bs) h8.i (by omega) hp.2.1 (fun q => by rw [hc] at q; exact absurd q.1 (by decide))
          exact obs2 (V' := fun b => b = b9) ⟨O, G, _, h9', Core.refl _, by rw [core.ms]; exact mo9, hd9⟩
        · have e0 : ((hndS park op.1.bs σ' J).2.2.code != 17) = true := bne_iff_ne.2 hc
          simp only [e0, e_gdtt]
          obtain ⟨ea, em⟩ : eR (hndS park op.1.bs σ' J).2.2 = (mdS op.1.bs σ').2 ∧ (hndS park op.1.bs σ' J).1.ms = (mdS op.1.bs σ').1.ms := by
            rcases hnd_md h8.i hp.2.1 (by omega) with ⟨q, _⟩ | q
            · exact absurd (by rw [q]; rfl) hc
            · exact q
          refine fdp (ld1_r (v := op.2) r9 rfl ?_)
          refine h9'.hdl (σ := σ') mo9 hd9 h8.i.g (hp.1.kp' h9.k) (fun b q => by have := h9.k.size; omega) hp.2.1 (by omega) fun w10 v10 b10 S10 O10 h10 mo10 hd10 sl10 hb10 hk10 hS10 hW10 => ?_
          rw [← em] at mo10
          have sl9' := sl9.kp hk10 fun b e => by cases e; exact hS10 _ rfl
          rw [← ea] at sl10
          have hll := hnd_len (bs := op.1.bs) h8.i
          refine sameB_ok (sl9'.arb (by omega)) (sl10.arb (by omega)) fun w11 hk11 => ?_
          rw [decide_eq_true rfl]
          simp only [e_not, Bool.not_true, e_pkt, e_iff]
          exact obs2 (V' := fun c => c = b9 ∨ c = b10) (Zm.emp ⟨O10, G, _, h10, Core.refl _, mo10, hd10⟩ hk11)
    · rintro l w5 ⟨σ0, J, rfl, z5, jl5, hq5⟩ B
      rw [s12_p5_Fe]
      unfold s12_p4
      simp only [dnlt, e_lss, e_iff]
      obtain ⟨O, G, σ, h5, c5, mo5, hd5⟩ := z5
      have hsq := c5.seq
      exact full_end h5 (jl5.ll (by decide)) (by omega)
end
end Go.Proofs.Qxb6500896aGreat
