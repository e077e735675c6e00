import Derived.Test.Qxb6500896aGreatD5
import Derived.Test.Qxb6500896aGreatN20
namespace Go.Proofs.Qxb6500896aGreat
open Go.Sh Go.RowKit Classical
set_option linter.unusedVariables false
set_option linter.unusedSimpArgs false

section
variable {V V' V1 S F G : Nat → Prop} {W w w' w1 w2 : World} {fv v rv iv lv : Value} {ans : Rq → List Int} {Z Z' : (Nat → Prop) → World → Prop} {X : List (Nat × TypeId × List Value)} {K : Value → World → Prop} {c : Nat} {rob iob : Option Nat} {s : SrvS} {B1 B2 B3 : List Value → World → Prop} {t3 t4 t5 t7 t40 t41 t42 t80 t81 : Value} {seq now : Int} {cf a : Nat} {cc : List Value} {σ : Sg}
theorem Sb.ky2 (h : Sb Z X rv rob V w iv iob s) (z' : Z' V' w') (hV : ∀ b, V b → V' b) (ky : Ky V w w') : Sb Z' X rv rob V' w' iv iob s := by
  obtain ⟨its, e1, e2, e3⟩ := h.recs
  obtain ⟨S, k, q⟩ := ky
  exact ⟨z', fun p hp => ⟨⟨hV _ (h.x p hp).1.1, (h.x p hp).1.2⟩, k.row (h.x p hp).2 (q _ (h.x p hp).1.1)⟩, ⟨its, e1, e2.kp k fun b e => q b (h.rV b e), fun p hp => ((e3 p hp).kp k fun b hb => q b hb.1).mono fun b hb => ⟨hV b hb.1, hb.2⟩⟩, fun b e => hV b (h.rV b e), h.iss.kp k fun b e => q b (h.iV b e), fun b e => hV b (h.iV b e)⟩
/-- a further row is kept -/
theorem Sb.more {b : Nat} {T : TypeId} {l : List Value} (h : Sb Z X rv rob V w iv iob s) (hb : V b) (r : Row w b T l) (h1 : T ≠ 85) (h2 : T ≠ 90) : Sb Z ((b, T, l) :: X) rv rob V w iv iob s := by
  obtain ⟨its, e1, e2, e3⟩ := h.recs
  refine ⟨h.z, fun p hp => ?_, h.recs, h.rV, h.iss, h.iV⟩
  rcases List.mem_cons.1 hp with rfl | hp
  · exact ⟨⟨hb, e2.ne r (Ne.symm h1), h.iss.ne r (Ne.symm h2)⟩, r⟩
  · exact h.x p hp
set_option maxHeartbeats 2000000 in
/-- all attractions are served -/
theorem at_loop (srv : Srv W fv ans Z) (HA : ∀ q, QOk q → ans q = eR (ansQ park σ q)) (g : SGd park σ) (h : Sb Z X rv rob V w nilS none ⟨σ.rs, σ.ls, []⟩) (hX : Row W cf 34 cc) (hcc : cc[9]? = some (I 4)) (hXc : (c, 143, [fv]) ∈ X)
    (hK : ∀ w' V' iv' iob', Sb Z X rv rob V' w' iv' iob' (tServe park σ.now σ.rs σ.ls) → IsI σ.now (tServe park σ.now σ.rs σ.ls) → (tServe park σ.now σ.rs σ.ls).iss.length ≤ 26 → s8_p9 K B1 (P cf 0) t4 (P c 0) t7 rv iv' t40 t41 t42 w') :
    s8_p28 K B1 (P cf 0) t4 (P c 0) t7 rv (I σ.now) nilS t40 t41 t42 (I (3 : Nat)) (I (0 : Nat)) w := by
  have hl3 : σ.ls.length = 3 := g.li.len
  have hlen := g.len
  have hmb : park.mb = 26 := rfl
  rw [hmb] at hlen
  have hw0 := waits_le σ.rs
  unfold s8_p28
  refine loop_n 3 (fun i l w' => ∃ (V' : Nat → Prop) (iv' : Value) (iob' : Option Nat) (s' : SrvS), l = [P cf 0, t4, P c 0, t7, rv, I σ.now, iv', t40, t41, t42, I (3 : Nat), I (i : Nat)] ∧ Sb Z X rv rob V' w' iv' iob' s' ∧ Gd park σ.seq σ.now s'.rs s'.ls ∧ s'.iss.length + waits s'.rs ≤ 26 ∧ IsI σ.now s' ∧ tServe park σ.now σ.rs σ.ls = srvL park σ.now (3 - i) i s' ∧ ∀ b, i ≤ b → b < 3 → lnOf s'.ls (b : Nat) = lnOf σ.ls (b : Nat))
    ⟨V, _, none, ⟨σ.rs, σ.ls, []⟩, rfl, h, g, by simp only [List.length_nil]; omega, (fun p hp => by cases hp), by unfold tServe; rw [hl3], fun _ _ _ => rfl⟩ ?_ ?_
  · rintro i l w1 hi ⟨V1, iv1, iob1, s1, rfl, h1, g1, hl1, hI1, he, hoth⟩ B hB
    rw [s8_p28_Fe]
    unfold s8_p27
    simp only [dlt hi, e_lss, e_ift]
    unfold s8_p26
    have hxc := h1.x _ hXc
    have hlt := srv.lt h1.z
    refine clLine_ok srv HA g h1.z hxc.2 hxc.1.1 hi fun w2 V2 wv z2 hV2 ky2 a2 => ?_
    simp only [ex2_0, ex2_1]
    have h2 := h1.ky z2 hV2 ky2
    rw [← hoth i (Nat.le_refl _) hi] at a2
    have a2' : Ar iC 1 (Fz V2 rob iob1) w2 wv (lnOf s1.ls ((i : Nat) : Int)) := a2.mono fun b hb => ⟨hb.1, fun e => by have := hlt b (h1.rV b e); have := hb.2; omega, fun e => by have := hlt b (h1.iV b e); have := hb.2; omega⟩
    refine at_serve srv h2 g1 hX hcc hi a2' hl1 fun w3 V3 iv3 iob3 h3 hl3' => ?_
    unfold s8_p10
    simp only [e_add]
    rw [inc i (by omega)]
    refine hB _ _ ⟨V3, iv3, iob3, _, rfl, h3, g1.srvA park_cv, hl3', hI1.srvA, ?_, fun b hb hb3 => ?_⟩
    · rw [he, show 3 - i = (3 - (i + 1)) + 1 by omega, srvL]
    · rw [srvA_other hi hb3 (by omega) g1]
      exact hoth b (by omega) hb3
  · rintro l w1 ⟨V1, iv1, iob1, s1, rfl, h1, g1, hl1, hI1, he, hoth⟩ B
    rw [s8_p28_Fe]
    unfold s8_p27
    simp only [dnlt, e_lss, e_iff]
    rw [show 3 - 3 = 0 from rfl, srvL] at he
    rw [he] at hK
    exact hK w1 V1 iv1 iob1 h1 hI1 (by omega)
set_option maxHeartbeats 4000000 in
/-- what was foretold has come -/
theorem want_loop {rb : Nat} {rl : List Value} {riv : Value} (srv : Srv W fv ans Z) (HA : ∀ q, QOk q → ans q = eR (ansQ park σ q)) (g : SGd park σ) (h : Sb Z X rv rob V w iv iob s) (hXc : (c, 143, [fv]) ∈ X) (hXr : (rb, 94, rl) ∈ X) (hrl : rl[7]? = some riv) (hri : Ar isC2 2 (Fz V rob iob) w riv s.iss) (hlen : s.rs.length ≤ 1000000) (hil : s.iss.length ≤ 1000000)
    (hI : ∀ p ∈ s.iss, has s.rs p.id ∧ (rget s.rs p.id).st = 8) (hS : ∀ p ∈ s.iss, has σ.rs p.id ∧ rget σ.rs p.id = rget s.rs p.id)
    (hK : ∀ w' V', Sb Z X rv rob V' w' iv iob s → s8_p2 K B1 t3 t4 (P c 0) t40 t41 t42 w') :
    s8_p8 K B1 t3 t4 (P c 0) rv (P rb 0) t40 t41 t42 iv (I (s.iss.length : Nat)) (I (0 : Nat)) w := by
  unfold s8_p8
  refine loop_n s.iss.length (fun i l w' => ∃ V' : Nat → Prop, l = [t3, t4, P c 0, rv, P rb 0, t40, t41, t42, iv, I (s.iss.length : Nat), I (i : Nat)] ∧ Sb Z X rv rob V' w' iv iob s ∧ Ar isC2 2 (Fz V' rob iob) w' riv s.iss) ⟨V, rfl, h, hri⟩ ?_ ?_
  · rintro i l w1 hi ⟨V1, rfl, h1, ri1⟩ B hB
    rw [s8_p8_Fe]
    unfold s8_p7
    simp only [dlt hi, e_lss, e_ift]
    unfold s8_p6
    have ia := h1.iss.ar (F := V1) isC2_len (by omega) h1.iV
    refine each_r rfl ia hi (isC2_len _) (isC2_sc _) fun w2 r2 hk2 hz2 => ?_
    have hmem := List.getElem_mem hi
    obtain ⟨p1, p2⟩ := hI _ hmem
    obtain ⟨q1, q2⟩ := hS _ hmem
    generalize hp : s.iss[i] = p at r2 p1 p2 q1 q2
    have h2 := h1.emp srv hk2
    have v2 : V1 w1.heap.size ∨ Nb w1 w2 w1.heap.size := .inr ⟨Nat.le_refl _, by omega⟩
    have hlt1 := srv.lt h1.z
    have ri2 : Ar isC2 2 (Fz (fun b => V1 b ∨ Nb w1 w2 b) rob iob) w2 riv s.iss := (ri1.kp' hk2).mono fun b hb => ⟨.inl hb.1, hb.2⟩
    refine fdp (ld1_r (v := I p.id) r2 rfl ?_)
    have hxc := h2.x _ hXc
    refine clGet_ok srv HA g h2.z hxc.2 hxc.1.1 q1 fun w3 V3 lv3 z3 hV3 ky3 a3 => ?_
    simp only [ex2_0, ex2_1]
    have h3 := h2.ky z3 hV3 ky3
    have ri3 : Ar isC2 2 (Fz V3 rob iob) w3 riv s.iss := (ky3.ar (fun b hb => hb.1) ri2).mono fun b hb => ⟨hV3 b hb.1, hb.2⟩
    have r3 := ky3.row v2 r2
    rw [q2] at a3
    rw [q2]
    refine nw_r fun w4 r4 hk4 hz4 => ?_
    refine stn_r (cs := rC (rget s.rs p.id, lv3)) r4 (rC_len _) (show 0 + 7 ≤ 7 by decide) (rC_sc a3.scal) fun w5 r5 hk5 hz5 => ?_
    rw [List.take_zero, List.nil_append, Nat.zero_add, List.drop_of_length_le (by decide), List.append_nil] at r5
    have k35 : Kp Emp w3 w5 := hk4.then hk5 fun b hb (q : b = _) => by omega
    unfold s8_p5 s8_p5_d
    have kd : Kp Emp w5 (drw w5) := kp_drw
    generalize drw w5 = w6 at kd ⊢
    have k36 := k35.trans kd
    have h6 := h3.emp srv k36
    have ri6 : Ar isC2 2 (Fz (fun b => V3 b ∨ Nb w3 w6 b) rob iob) w6 riv s.iss := (ri3.kp' k36).mono fun b hb => ⟨.inl hb.1, hb.2⟩
    have r6 := kd.row' r5
    have ri_6 := k36.row' r3
    refine fdp (ld1_r (v := riv) (h6.x _ hXr).2 hrl ?_)
    refine ri6.ix hi fun b1 o1 _ c1 => ?_
    refine c1.ldn (isC2_len _) ?_
    refine ldn_r ri_6 (show 0 + 2 ≤ 2 by decide) ?_
    rw [hp]
    refine ⟨.bool false, fun w _ => iss_ne ⟨rfl, rfl⟩, ?_⟩
    refine g_ff (g_ff ?_)
    simp only [e_fne1]
    refine p_kf ?_
    refine g_ff (fdp ?_)
    refine g_ff (ld1_r (v := I (rget s.rs p.id).st) r6 rfl ?_)
    refine g_ff (neq_no p2 ?_)
    refine p_kf ?_
    refine g_ff (fdp ?_)
    refine g_ff (ld1_r (v := lv3) r6 rfl ?_)
    refine g_ff ?_
    refine g_ff (fdp ?_)
    refine g_ff (ld1_r (v := I p.id) ri_6 rfl ?_)
    refine g_ff ?_
    obtain ⟨j, hid, hj⟩ := has_at p1
    simp only [e_sub]
    rw [wrap64_id (by omega) (by omega), show p.id - 1 = ((j : Nat) : Int) by omega]
    refine g_ff (h6.at_ hj fun b hb => ?_)
    refine g_ff (fdo (g_ff ?_))
    obtain ⟨lr, lvr, rr, hr1, hr2⟩ := h6.row hb hj
    refine ld1_r (v := lvr) rr (by rw [hr1 6 (by decide)]; rfl) (g_ff ?_)
    have a6 := a3.kp' k36
    refine sameLegs_ok a6 hr2 fun w7 k7 => ?_
    rw [rget_at hid hj, decide_eq_true rfl]
    simp only [e_gdff, e_not, Bool.not_true, e_pkf]
    unfold s8_p4
    refine sw_f ?_
    unfold s8_p3
    simp only [e_add]
    rw [inc i (by omega)]
    have h7 := h6.emp srv k7
    exact hB _ _ ⟨_, rfl, h7, (ri6.kp' k7).mono fun b hb => ⟨.inl hb.1, hb.2⟩⟩
  · rintro l w1 ⟨V1, rfl, h1, ri1⟩ B
    rw [s8_p8_Fe]
    unfold s8_p7
    simp only [dnlt, e_lss, e_iff]
    exact hK w1 V1 h1
end
end Go.Proofs.Qxb6500896aGreat
