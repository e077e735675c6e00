import Derived.Test.Qxb6500896aGreatD6
namespace Go.Proofs.Qxb6500896aGreat
open Go.Sh Go.RowKit
set_option linter.unusedVariables false
set_option linter.unusedSimpArgs false

/-- whoever has the rig at a state -/
abbrev Zl (W : World) (r e : Nat) (σ : Sg) (J : Jr) : (Nat → Prop) → World → Prop := fun V w => ∃ σ', Lz W V w r e σ' J ∧ Core σ σ'
theorem HA_of {σ : Sg} {J : Jr} (h : RgI park σ J) (hlo : σ.loose = 0) (hs : σ.seq ≤ 1000000000) : ∀ q, QOk q → ansE σ J q = eR (ansQ park σ q) := fun q hq => by
  unfold ansE
  rw [(hq.hnd h hlo (by omega)).1]
section
variable {V V' V1 S F G : Nat → Prop} {W w w' w1 w2 : World} {fv v rv iv lv : Value} {X : List (Nat × TypeId × List Value)} {K : Value → World → Prop} {c r e ob : Nat} {rob iob : Option Nat} {s : SrvS} {B1 B2 B3 : List Value → World → Prop} {t3 t4 t5 t7 t40 t41 t42 t80 t81 : Value} {cf a : Nat} {cc : List Value} {σ : Sg} {J : Jr} {bs : List Int} {kd : Int} {opl : List Value}
set_option maxHeartbeats 4000000 in
/-- the tick itself -/
theorem tick_p9 (h0 : RgI park σ J) (hlo : σ.loose = 0) (hs : σ.seq ≤ 1000000) (h : Sb (Zl W r e σ J) X rv rob V w iv iob (tServe park σ.now σ.rs σ.ls)) (hXc : (c, 143, [sendV r]) ∈ X) (hXo : (ob, 39, opl) ∈ X) (hopl : opl[1]? = some v)
    (hI : IsI σ.now (tServe park σ.now σ.rs σ.ls)) (hil : (tServe park σ.now σ.rs σ.ls).iss.length ≤ 26) (hv : Ar bC 1 (fun b => b < W.heap.size) W v bs) (hB : By bs) (d0 : (dec bs).2 = 0) (d9 : (dec bs).1.op = 9)
    (hK : ∀ w' V' σ' J', Lz W V' w' r e σ' J' → (∀ p ∈ X, V' p.1 ∧ Row w' p.1 p.2.1 p.2.2) → σ'.seq ≤ σ.seq + 1 → s8_p2 K B1 t3 (P r 0) (P c 0) t40 t41 t42 w') :
    s8_p9 K B1 t3 (P r 0) (P c 0) (P ob 0) rv iv t40 t41 t42 w := by
  unfold s8_p9
  refine fdp (ld1_r (v := v) (h.x _ hXo).2 hopl ?_)
  obtain ⟨σ1, z1, c1⟩ := h.z
  have szz := z1.k.size
  have hseq := c1.seq
  refine z1.send (by omega) (hv.kp' z1.k) (fun b q => by omega) hB fun w2 v2 b2 S2 z2 sl2 hb2 hk2 hS2 hW2 => ?_
  have hlt := z1.lt
  have hpn := hnd_rpn (bs := bs) z1.i
  have hpx := hnd_rpx (bs := bs) (J := J) (σ := σ1) fun _ => z1.i.g
  have hpl := hnd_len (bs := bs) z1.i
  have hcnt := hndS_cnt park bs σ1 J
  have hqq := hndS_q park bs σ1 J
  have hdone := fun hc => hnd_done (C := park) (bs := bs) (σ := σ1) (J := J) hc d0 (by rw [d9]; rfl)
  generalize hx : hndS park bs σ1 J = x at z2 sl2 hpn hpx hpl hcnt hqq hdone
  obtain ⟨σ2, J2, p⟩ := x
  simp only at z2 sl2 hpn hpx hpl hcnt hqq hdone
  have hs2 : σ2.seq ≤ σ.seq + 1 := by omega
  have ky2 : Ky V w w2 := Ky.of hk2 fun c hc => hS2 c hc
  have h2 : Sb (Zl W r e σ2 J2) X rv rob (fun c => V c ∨ c = b2) w2 iv iob (tServe park σ.now σ.rs σ.ls) := h.ky2 ⟨σ2, z2, Core.refl _⟩ (fun b q => .inl q) ky2
  have b2lt := sl2.lt
  refine decR_ok (sl2.arb (by omega)) (eR_by' hpn) (fun b (q : b = b2) => by omega) (by omega) fun w3 l3 hk3 hv3 => ?_
  rw [decR_eR hpn hpx hcnt] at hv3 ⊢
  simp only [ex2_0, ex2_1]
  refine nw_r fun w4 r4 hk4 hz4 => ?_
  have hl34 := hv3.len
  refine stn_r (cs := l3) r4 hl34 (show 0 + 34 ≤ 34 by decide) hv3.sc fun w5 r5 hk5 hz5 => ?_
  rw [List.take_zero, List.nil_append, Nat.zero_add, List.drop_of_length_le (by decide), List.append_nil] at r5
  have k35 : Kp Emp w3 w5 := hk4.then hk5 fun b hb (q : b = _) => by omega
  have k25 : Kp Emp w2 w5 := hk3.trans k35
  simp only [e_not, Bool.not_true, e_iff]
  have srv2 := Lz.srv (W := W) (r := r) (e := e) z2.i z2.lo (by omega : σ2.seq ≤ 1000000000)
  have HA2 := HA_of z2.i z2.lo (by omega)
  have h5 := h2.emp srv2 k25
  have s3 := hk3.size
  have s5 := k35.size
  have v5 : (V w3.heap.size ∨ w3.heap.size = b2) ∨ Nb w2 w5 w3.heap.size := .inr ⟨by omega, by omega⟩
  obtain ⟨iv3, rv3, wv3, el3, hi3, hr3, hw3, hc3⟩ := id hv3
  have ecode : (nrm p).code = p.code := by
    by_cases q : p.code = 0
    · obtain ⟨e1, e2, e3⟩ := nrm_co q
      rw [e1, e2, q]
    · unfold nrm; rw [if_neg q]
  have c0 : l3[0]? = some (I p.code) := by
    rw [el3]
    show some (I (nrm p).code) = _
    rw [ecode]
  refine fdp (ld1_r (v := I p.code) r5 c0 ?_)
  have fin : ∀ w' V', Sb (Zl W r e σ2 J2) X rv rob V' w' iv iob (tServe park σ.now σ.rs σ.ls) → s8_p2 K B1 t3 (P r 0) (P c 0) t40 t41 t42 w' := fun w' V' h' => by
    obtain ⟨σ6, z6, c6⟩ := h'.z
    exact hK w' V' σ6 J2 z6 (fun p hp => ⟨(h'.x p hp).1.1, (h'.x p hp).2⟩) (by rw [c6.seq]; exact hs2)
  by_cases hcd : p.code = 0
  · have en : (p.code != 0) = false := by rw [hcd]; rfl
    simp only [e_neq, en, e_iff]
    have d := hdone hcd
    obtain ⟨e1, e2, e3⟩ := nrm_co hcd
    -- it was a tick
    have hap : apS park (dec bs).1 σ1 = (tkS park σ1, tkR park (dec bs).1 σ1) := by
      unfold apS
      rw [if_neg (by omega), if_neg (by omega), if_neg (by omega), if_neg (by omega), if_neg (by omega), if_neg (by omega), if_neg (by omega), if_neg (by omega), if_pos d9]
    have hnx : ¬ park.mc ≤ σ1.now := fun q => by
      have := d.c
      rw [hap] at this
      unfold tkR at this
      rw [if_pos q] at this
      exact absurd this (show ¬ (11 : Int) = 0 by decide)
    have hpe : p = tkR park (dec bs).1 σ1 := by rw [d.p, hap]
    unfold tkR at hpe
    rw [if_neg hnx] at hpe
    have hrs : σ2.rs = tSweep park (σ.now + 1) (tServe park σ.now σ.rs σ.ls).rs := by
      rw [d.rs, hap]
      unfold tkS
      rw [if_neg hnx, c1.now, c1.rs, c1.ls]
    have hop : p.op = 9 := by rw [hpe]; exact d9
    have hiss : (nrmB p).iss = (tServe park σ.now σ.rs σ.ls).iss := by
      unfold nrmB
      rw [hop, if_neg (by decide), if_neg (by decide), if_neg (by decide), if_pos rfl, hpe]
      simp only
      rw [c1.now, c1.rs, c1.ls]
    rw [e1, hiss] at hi3
    have hi5 : Ar isC2 2 (Fz (fun b => (V b ∨ b = b2) ∨ Nb w2 w5 b) rob iob) w5 iv3 (tServe park σ.now σ.rs σ.ls).iss := by
      refine (hi3.kp' k35).mono fun b hb => ⟨.inr ⟨hb.1, by have := hb.2; omega⟩, fun q => ?_, fun q => ?_⟩
      · rcases h2.rV b q with q | q
        · have := hlt b q; have := hb.1; omega
        · have := hb.1; omega
      · rcases h2.iV b q with q | q
        · have := hlt b q; have := hb.1; omega
        · have := hb.1; omega
    have c7 : l3[7]? = some iv3 := by rw [el3]; rfl
    refine fdp (ld1_r (v := iv3) r5 c7 ?_)
    refine hi5.ln ?_
    refine h5.iss.ln ?_
    have en2 : (((((tServe park σ.now σ.rs σ.ls).iss.length : Nat) : Int)) != (((tServe park σ.now σ.rs σ.ls).iss.length : Nat) : Int)) = false := by simp
    simp only [e_neq, en2, e_iff]
    refine h5.iss.ln ?_
    have hg2 : SGd park σ2 := z2.i.g
    have h5' := h5.more v5 r5 (by decide) (by decide)
    have gs : Gd park σ.seq σ.now (tServe park σ.now σ.rs σ.ls).rs (tServe park σ.now σ.rs σ.ls).ls := h0.g.serve park_cv
    have hlen := gs.len
    have hmb : park.mb = 26 := rfl
    rw [hmb] at hlen
    refine want_loop (s := tServe park σ.now σ.rs σ.ls) srv2 HA2 hg2 h5' (List.mem_cons_of_mem _ hXc) List.mem_cons_self c7 hi5 (by omega) (by omega) (fun p hp => ⟨(hI p hp).1, (hI p hp).2.1⟩) (fun p hp => by rw [hrs]; exact hI.sweep p hp) fun w6 V6 h6 => ?_
    obtain ⟨σ6, z6, c6⟩ := h6.z
    exact hK w6 V6 σ6 J2 z6 (fun p hp => ⟨(h6.x p (List.mem_cons_of_mem _ hp)).1.1, (h6.x p (List.mem_cons_of_mem _ hp)).2⟩) (by rw [c6.seq]; exact hs2)
  · have en : (p.code != 0) = true := by rw [bne_iff_ne]; exact hcd
    simp only [e_neq, en, e_ift]
    exact fin w5 _ h5
set_option maxHeartbeats 4000000 in
theorem standby_walk {xs : List Op} (hs : Scr W v xs) : cl Tryz.prog 8 #[v] (fun e W' => e = .bool true ∧ Below W.heap.size W W') W := by
  apply c8
  unfold s8_p32
  refine small_ok hs (Kp.refl _ _) fun rr hr => ?_
  cases rr with
  | false =>
    simp only [Bool.not_false, e_not, e_ift]
    exact ⟨trivial, (Kp.refl _ _).below'⟩
  | true =>
    obtain ⟨hxl, hbl⟩ := hr rfl
    simp only [Bool.not_true, e_not, e_iff]
    refine park_ok fun w1 l1 hk1 hc1 => ?_
    have hsc1 := hc1.sc
    obtain ⟨va, vt, rfl, ha, _⟩ := hc1.ex
    refine nw_r fun w2 r2 hk2 hz2 => ?_
    refine stn_r (cs := park.cells va vt) r2 rfl (show 0 + 14 ≤ 14 by decide) hsc1 fun w3 r3 hk3 hz3 => ?_
    rw [List.take_zero, List.nil_append, Nat.zero_add, List.drop_of_length_le (by decide), List.append_nil] at r3
    have k03 : Kp Emp W w3 := (hk1.trans hk2).then hk3 fun b hb (q : b = _) => by have := hk1.size; omega
    have s03 := k03.size
    refine pj_ok2 fun w4 hk4 => ?_
    refine newRig_ok (W := w3) ⟨by decide, by decide⟩ hk4 fun w5 r e z5 hk5 => ?_
    apply c31
    unfold s31_p1
    refine bdq_r (l := [sendV r]) rfl ?_
    refine nw_r fun w6 r6 hk6 hz6 => ?_
    replace r6 : Row w6 w5.heap.size 143 [sendV r] := r6
    have z6 := z5.new hk6 (Nat.le_refl _) (show w5.heap.size < w6.heap.size by omega)
    replace z6 : Lz w3 (fun b => b = w5.heap.size) w6 r e (sg0 park) (jr0 48 72 1200) := z6.sub fun b q => .inr q
    generalize w5.heap.size = c at r6 z6
    generalize hcf : w1.heap.size = cf at r3
    obtain ⟨its, h1, h2, h3⟩ := hs
    have hil : its.length = xs.length := by rw [← h1, List.length_map]
    have hbl' : ∀ p ∈ its, p.1.bs.length ≤ 65536 := fun p hp => hbl _ (by rw [← h1]; exact List.mem_map_of_mem hp)
    refine h2.ln ?_
    unfold s8_p31
    refine loop_n its.length (fun i l w' => ∃ σ J, l = [P cf 0, P r 0, P c 0, v, I (its.length : Nat), I (i : Nat)] ∧ Lz w3 (fun b => b = c) w' r e σ J ∧ Row w' c 143 [sendV r] ∧ σ.seq ≤ ((i : Nat) : Int)) ⟨_, _, rfl, z6, r6, by simp [sg0]⟩ ?_ ?_
    · rintro i l w7 hi ⟨σ, J, rfl, z7, rc7, hq7⟩ B hB
      rw [s8_p31_Fe]
      unfold s8_p30
      have hp := h3 _ (List.getElem_mem hi)
      have hbi := hbl' _ (List.getElem_mem hi)
      have k07 := k03.trans z7.k
      simp only [dlt hi, e_lss, e_ift]
      unfold s8_p29
      refine each_r rfl (h2.kp' k07) hi (opC_len _) (by simp only [opC, List.all_cons, List.all_nil, hp.1.scal]; rfl) fun w8 r8 hk8 hz8 => ?_
      have z8 := z7.new hk8 (Nat.le_refl _) (show w7.heap.size < w8.heap.size by omega)
      refine ldn_r r8 (show 0 + 4 ≤ 4 by decide) ?_
      refine isReq_ok (p := its[i]) fun w9 hk9 => ?_
      have z9 := z8.emp hk9
      have r9 := hk9.row' r8
      have rc9 := hk9.row' (hk8.row' rc7)
      generalize its[i] = op at hp hbi r9 ⊢
      have next : ∀ {w' : World} {V' : Nat → Prop} {σ' : Sg} {J' : Jr}, Lz w3 V' w' r e σ' J' → V' c → Row w' c 143 [sendV r] → σ'.seq ≤ ((i + 1 : Nat) : Int) → s8_p2 (fun e W' => e = .bool true ∧ Below W.heap.size W W') B (P cf 0) (P r 0) (P c 0) v (I (its.length : Nat)) (I (i : Nat)) w' := fun {w' V' σ' J'} z' hV' rc' hq' => by
        unfold s8_p2
        simp only [e_add]
        rw [inc i (by omega)]
        exact hB _ _ ⟨σ', J', rfl, z'.sub fun b q => by rw [q]; exact hV', rc', hq'⟩
      have szz9 := z9.k.size
      cases hk : (op.1.kind == 0 || op.1.kind == 4) with
      | false =>
        simp only [Bool.not_false, e_not, e_ift]
        exact next z9 (.inl rfl) rc9 (by omega)
      | true =>
        simp only [Bool.not_true, e_not, e_iff]
        refine fdp (ld1_r (v := op.2) r9 rfl ?_)
        have hpk := hp.1.kp' (k03.trans z9.k)
        refine dec_ok hpk hp.2.1 (fun b q => by omega) fun w11 l11 hk11 hq11 => ?_
        obtain ⟨lv11, rfl, hl11⟩ := hq11
        have z11 := z9.emp hk11
        simp only [ex2_0, ex2_1]
        refine nw_r fun w12 r12 hk12 hz12 => ?_
        refine stn_r (cs := (dec op.1.bs).1.cells lv11) r12 rfl (show 0 + 8 ≤ 8 by decide) (by unfold Rq.cells; simp only [List.all_cons, List.all_nil, hl11.scal]; rfl) fun w13 r13 hk13 hz13 => ?_
        replace r13 : Row w13 w11.heap.size 52 ((dec op.1.bs).1.cells lv11) := r13
        have k1113 : Kp Emp w11 w13 := hk12.then hk13 fun b hb (q : b = _) => by omega
        have z13 := (z11.new hk12 (Nat.le_refl _) (by omega)).wr hk13 fun b (q : b = _) => .inr q
        have k913 := hk11.trans k1113
        have r13b := k913.row' r9
        have rc13 := k913.row' rc9
        have other : fd 1 (P w7.heap.size 0) (fun t63 w => ld1 t63 (fun t64 w => cl Tryz.prog 24 #[P r 0, t64] (fun t65 w => s8_p2 (fun e W' => e = .bool true ∧ Below W.heap.size W W') B (P cf 0) (P r 0) (P c 0) v (I (its.length : Nat)) (I (i : Nat)) w) w) w) w13 := by
          refine fdp (ld1_r (v := op.2) r13b rfl ?_)
          have szz := z13.k.size
          refine z13.send (by omega) (hp.1.kp' (k03.trans z13.k)) (fun b q => by omega) hp.2.1 fun w14 v14 b14 S14 z14 sl14 hb14 hk14 hS14 hW14 => ?_
          have hqq := hndS_q park op.1.bs σ J
          exact next z14 (.inl (.inl (.inl rfl))) (hk14.row rc13 (hS14 c (.inl (.inl rfl)))) (by omega)
        by_cases h0 : (dec op.1.bs).2 = 0
        · have e0 : ((((dec op.1.bs).2 : Nat) : Int) != 0) = false := by rw [h0]; rfl
          simp only [e_neq, e0, e_gdff]
          refine fdp (ld1_r (v := U8 (dec op.1.bs).1.op) r13 rfl ?_)
          by_cases h9 : (dec op.1.bs).1.op = 9
          · have e9 : ((dec op.1.bs).1.op != 9) = false := by rw [h9]; rfl
            simp only [e_gdff, e_neq, e9, e_pkf, e_iff]
            -- the tick
            have hs0 : σ.seq ≤ 1000000 := by omega
            have srv := Lz.srv (W := w3) (r := r) (e := e) z13.i z13.lo (by omega : σ.seq ≤ 1000000000)
            have HA := HA_of z13.i z13.lo (by omega)
            have g := z13.i.g
            have zz : Zl w3 r e σ J (fun b => (b = c ∨ b = w7.heap.size) ∨ b = w11.heap.size) w13 := ⟨σ, z13, Core.refl _⟩
            refine all_ok srv HA g zz rc13 (.inl (.inl rfl)) fun w14 rv V14 its14 ob14 z14 hV14 hm14 sl14 hob14 hlg14 ky14 => ?_
            simp only [ex2_0, ex2_1]
            have rc14 := ky14.row (.inl (.inl rfl)) rc13
            have ro14 := ky14.row (.inl (.inr rfl)) r13b
            refine clock_ok srv HA g z14 rc14 (hV14 c (.inl (.inl rfl))) fun w15 V15 z15 hV15 ky15 => ?_
            simp only [ex4_0, ex4_1, ex4_2, ex4_3]
            have r3' : Row w15 cf 34 (park.cells va vt) := (srv.k z15).row' r3
            refine fdp (ld1_r (v := va) r3' rfl ?_)
            refine ha.ln ?_
            have h14 : Sb (Zl w3 r e σ J) [(c, 143, [sendV r]), (w7.heap.size, 39, opC op)] rv ob14 V14 w14 nilS none ⟨σ.rs, σ.ls, []⟩ := by
              refine ⟨z14, fun p hp => ?_, ⟨its14, hm14, sl14, fun p hp => (hlg14 p hp).mono fun b hb => ⟨hb.1, hb.2, fun q => by cases q⟩⟩, hob14, ⟨rfl, rfl⟩, fun b q => by cases q⟩
              rcases List.mem_cons.1 hp with rfl | hp
              · exact ⟨⟨hV14 _ (.inl (.inl rfl)), sl14.ne rc14 (by decide), fun q => by cases q⟩, rc14⟩
              · rcases List.mem_cons.1 hp with rfl | hp
                · exact ⟨⟨hV14 _ (.inl (.inr rfl)), sl14.ne ro14 (by decide), fun q => by cases q⟩, ro14⟩
                · cases hp
            have h15 := h14.ky z15 hV15 ky15
            refine at_loop srv HA g h15 r3 rfl List.mem_cons_self fun w16 V16 iv16 iob16 h16 hI16 hl16 => ?_
            refine tick_p9 z13.i z13.lo hs0 h16 List.mem_cons_self (List.mem_cons_of_mem _ List.mem_cons_self) rfl hI16 hl16 ((hp.1.kp' k03).mono fun b hb => by omega) hp.2.1 h0 h9 fun w17 V17 σ17 J17 z17 hx17 hq17 => ?_
            have := hx17 _ (List.mem_cons_self)
            exact next z17 this.1 this.2 (by omega)
          · have e9 : ((dec op.1.bs).1.op != 9) = true := by rw [bne_iff_ne]; exact h9
            simp only [e_gdff, e_neq, e9, e_pkf, e_ift]
            exact other
        · have e0 : ((((dec op.1.bs).2 : Nat) : Int) != 0) = true := by rw [bne_iff_ne]; omega
          simp only [e_neq, e0, e_gdtf, e_pkt, e_ift]
          exact other
    · rintro l w7 ⟨σ, J, rfl, z7, rc7, hq7⟩ B
      rw [s8_p31_Fe]
      unfold s8_p30
      simp only [dnlt, e_lss, e_iff]
      unfold s8_p1
      exact ⟨rfl, (k03.trans z7.k).below'⟩
end
end Go.Proofs.Qxb6500896aGreat
