import Derived.Test.Qxb6500896aGreatDoorK29
import Derived.Test.Qxb6500896aGreatDoorShEq
namespace Go.Proofs.Qxb6500896aGreatDoor
open Go.Sh Go.RowKit
set_option linter.unusedVariables false
set_option linter.unusedSimpArgs false

set_option maxRecDepth 100000 in
theorem lg_g : Tryz.prog.eqGuardType Tryz.prog.depth 116 = false := by kernel_rfl
set_option maxRecDepth 100000 in
theorem lg_u : Tryz.prog.underlying 116 = some (.struct (Tryz.prog.fieldsOf 116)) := by kernel_rfl
set_option maxRecDepth 100000 in
theorem lg_h : Tryz.prog.stoodInHeld 116 = false := by kernel_rfl
set_option maxRecDepth 100000 in
theorem lg_flat (a b c d : Int) : flatF Tryz.prog [I a, I b] [I c, I d] (Tryz.prog.fieldsOf 116).toList = some [(.i64, a, c), (.i64, b, d)] := by kernel_rfl
section
variable {w : World} {K : Value → World → Prop}
theorem leg_eq {x y : Operand} {a b : Leg} (hK : K (.bool (legAt b.a b.s a)) w) : bor Tryz.prog .eql 116 x y (.agg (lC a).toArray) (.agg (lC b).toArray) K w := by
  refine bor_eql_flat (P := Tryz.prog) (t := 116) (x := x) (y := y) (K := K) (w := w) (xs := [I a.a, I a.s]) (ys := [I b.a, I b.s]) (ps := [(.i64, a.a, b.a), (.i64, a.s, b.s)]) lg_g lg_u lg_h (lg_flat a.a a.s b.a b.s) ?_
  have e : ([(IntKind.i64, a.a, b.a), (.i64, a.s, b.s)] : List (IntKind × Int × Int)).all (fun q => q.2.1 == q.2.2) = legAt b.a b.s a := by simp [legAt]
  rw [e]
  exact hK
end
def quoLeg (C : Cfg) (rs : List Rec) (cls sz : Int) (ls : List Leg) (skip : Int) (l : Leg) : Bool := decide (entered rs l.a l.s cls skip + sumL (legAt l.a l.s) sz ls ≤ attQ (attOf C l.a) cls)
theorem ent_b {rs : List Rec} (hB : RBs rs) (hl : rs.length ≤ 16777216) (a s c k : Int) : 0 ≤ entered rs a s c k ∧ entered rs a s c k ≤ 144115188075855872 := by
  have := part_b (g := recAt a s c k) hl (fun r hr => recAt_b (hB r hr)) rs.length
  rw [List.take_length] at this
  exact this
theorem ins_b {C : Cfg} {rs : List Rec} (hB : RBs rs) (hl : rs.length ≤ 16777216) (a s k : Int) : 0 ≤ inside C rs a s k ∧ inside C rs a s k ≤ 144115188075855872 := by
  have := part_b (g := recIn C a s k) hl (fun r hr => recIn_b (hB r hr)) rs.length
  rw [List.take_length] at this
  exact this
theorem sumL_bt {p : Leg → Bool} {sz : Int} {ls : List Leg} (h0 : 0 ≤ sz) (h1 : sz ≤ 1073741824) (hl : ls.length ≤ 8) (i : Nat) : 0 ≤ sumL p sz (ls.take i) ∧ sumL p sz (ls.take i) ≤ 8589934592 := by
  have := sumL_b (p := p) h0 (ls.take i)
  rw [List.length_take] at this
  refine ⟨this.1, Int.le_trans this.2 ?_⟩
  have h2 : sz * ((min i ls.length : Nat) : Int) ≤ 1073741824 * ((min i ls.length : Nat) : Int) := Int.mul_le_mul_of_nonneg_right h1 (by omega)
  omega
theorem all_drop {α : Type} {p : α → Bool} {ls : List α} {i : Nat} (h : i < ls.length) : (ls.drop i).all p = (p ls[i] && (ls.drop (i + 1)).all p) := by
  rw [List.drop_eq_getElem_cons h, List.all_cons]
section
variable {F G S : Nat → Prop} {w w' w1 : World} {v lv : Value} {t : Nat} {C : Cfg} {rs : List Rec} {K : Value → World → Prop} {ls : List Leg} {B1 : List Value → World → Prop} {cls sz skip : Int}
theorem cls3 {a : Att} {bb o : Nat} {cls : Int} {X : Value → World → Prop} (h0 : 0 ≤ cls) (h1 : cls < 3) (hc : Cells w bb o a.cells) (hX : X (I (attQ a cls)) w') (hw : Kp Emp w w') : ixa 3 1 (P bb (o + 2)) (I cls) (fun p w => ld1 p X w) w' := by
  have hc' := hc.kp' hw
  have hcs : cls = 0 ∨ cls = 1 ∨ cls = 2 := by omega
  rcases hcs with rfl | rfl | rfl
  · exact ⟨⟨by decide, by decide⟩, hc'.ld1 (j := 2) rfl hX⟩
  · exact ⟨⟨by decide, by decide⟩, hc'.ld1 (j := 3) rfl hX⟩
  · exact ⟨⟨by decide, by decide⟩, hc'.ld1 (j := 4) rfl hX⟩
/-- the classes' quotas -/
theorem fit_quo (cv : CV C) (h : Tr F w t C rs) (hB : RBs rs) (hl : Ar lC 2 G w lv ls) (hll : ls.length ≤ 8) (hv : LV C ls) (hc : 0 ≤ cls ∧ cls < 3) (hs : 0 ≤ sz ∧ sz ≤ 1073741824)
    (hK : ∀ w', Kp Emp w w' → K (I (if ls.all (quoLeg C rs cls sz ls skip) then (if trLegs C ls then 0 else 7) else 6)) w') : s141_p18 K (P t 0) (I cls) (I sz) lv (I skip) w := by
  unfold s141_p18
  refine hl.ln ?_
  unfold s141_p17
  refine loop_n ls.length (fun i l w' => l = [P t 0, I cls, I sz, lv, I skip, lv, I (ls.length : Nat), I (i : Nat)] ∧ Kp Emp w w' ∧ ls.all (quoLeg C rs cls sz ls skip) = (ls.drop i).all (quoLeg C rs cls sz ls skip)) ⟨rfl, Kp.refl _ _, rfl⟩ ?_ ?_
  · rintro i l w2 hi ⟨rfl, k2, he⟩ B hBB
    rw [s141_p17_Fe]
    unfold s141_p16
    try simp only [e_fd, e_nck, e_pkt, e_pkf, e_gdtt, e_gdtf, e_gdft, e_gdff, e_ift, e_iff, e_not, e_ln, e_lnT, e_cp, e_cvi, e_ex20, e_ex21, e_ex30, e_ex31, e_ex32, e_add, e_sub, e_mul, e_quo, e_rem, e_and, e_or, e_xor, e_shl, e_shr, e_eql, e_neq, e_lss, e_leq, e_gtr, e_geq, e_beq, e_bne, e_peq1, e_peq2, e_pne1, e_pne2, e_zeq1, e_zeq2, e_zne1, e_zne2, e_feq1, e_fne1, e_feq2, e_fne2, e_seq, e_sne, e_ta1, e_ta2, Nat.zero_add, Nat.add_zero, Bool.not_true, Bool.not_false]
    rw [dlt hi]
    try simp only [e_fd, e_nck, e_pkt, e_pkf, e_gdtt, e_gdtf, e_gdft, e_gdff, e_ift, e_iff, e_not, e_ln, e_lnT, e_cp, e_cvi, e_ex20, e_ex21, e_ex30, e_ex31, e_ex32, e_add, e_sub, e_mul, e_quo, e_rem, e_and, e_or, e_xor, e_shl, e_shr, e_eql, e_neq, e_lss, e_leq, e_gtr, e_geq, e_beq, e_bne, e_peq1, e_peq2, e_pne1, e_pne2, e_zeq1, e_zeq2, e_zne1, e_zne2, e_feq1, e_fne1, e_feq2, e_fne2, e_seq, e_sne, e_ta1, e_ta2, Nat.zero_add, Nat.add_zero, Bool.not_true, Bool.not_false]
    unfold s141_p15
    refine each_r (f := lC) rfl (hl.kp' k2) hi rfl rfl fun w3 r3 hk3 hz3 => ?_
    have k3 := k2.trans hk3
    generalize hb : w2.heap.size = b at r3 ⊢
    obtain ⟨⟨a0, a1⟩, s0, s1⟩ := hv _ (List.getElem_mem hi)
    rw [all_drop hi] at he
    try simp only [e_fd, e_nck, e_pkt, e_pkf, e_gdtt, e_gdtf, e_gdft, e_gdff, e_ift, e_iff, e_not, e_ln, e_lnT, e_cp, e_cvi, e_ex20, e_ex21, e_ex30, e_ex31, e_ex32, e_add, e_sub, e_mul, e_quo, e_rem, e_and, e_or, e_xor, e_shl, e_shr, e_eql, e_neq, e_lss, e_leq, e_gtr, e_geq, e_beq, e_bne, e_peq1, e_peq2, e_pne1, e_pne2, e_zeq1, e_zeq2, e_zne1, e_zne2, e_feq1, e_fne1, e_feq2, e_fne2, e_seq, e_sne, e_ta1, e_ta2, Nat.zero_add, Nat.add_zero, Bool.not_true, Bool.not_false]
    refine ld1_r r3 rfl ?_
    refine ld1_r r3 rfl ?_
    refine entered_ok (h.kp' k3) hB fun w4 k4 => ?_
    have k4' := k3.trans k4
    have r4 := k4.row' r3
    refine hl.ln ?_
    have eb := ent_b hB h.len ls[i].a ls[i].s cls skip
    rw [show quoLeg C rs cls sz ls skip ls[i] = decide (entered rs ls[i].a ls[i].s cls skip + sumL (legAt ls[i].a ls[i].s) sz ls ≤ attQ (attOf C ls[i].a) cls) from rfl] at he
    generalize entered rs ls[i].a ls[i].s cls skip = E at eb he ⊢
    unfold s141_p14
    refine loop_n ls.length (fun k l w' => l = [P t 0, I cls, I sz, lv, I skip, P b 0, I (E + sumL (legAt ls[i].a ls[i].s) sz (ls.take k)), lv, I (ls.length : Nat), I (i : Nat), lv, I (ls.length : Nat), I (k : Nat)] ∧ Kp Emp w w' ∧ Row w' b 116 (lC ls[i])) ⟨by simp [sumL], k4', r4⟩ ?_ ?_
    · rintro k l w5 hk ⟨rfl, k5, r5⟩ B2 hB2
      rw [s141_p14_Fe]
      unfold s141_p13
      try simp only [e_fd, e_nck, e_pkt, e_pkf, e_gdtt, e_gdtf, e_gdft, e_gdff, e_ift, e_iff, e_not, e_ln, e_lnT, e_cp, e_cvi, e_ex20, e_ex21, e_ex30, e_ex31, e_ex32, e_add, e_sub, e_mul, e_quo, e_rem, e_and, e_or, e_xor, e_shl, e_shr, e_eql, e_neq, e_lss, e_leq, e_gtr, e_geq, e_beq, e_bne, e_peq1, e_peq2, e_pne1, e_pne2, e_zeq1, e_zeq2, e_zne1, e_zne2, e_feq1, e_fne1, e_feq2, e_fne2, e_seq, e_sne, e_ta1, e_ta2, Nat.zero_add, Nat.add_zero, Bool.not_true, Bool.not_false]
      rw [dlt hk]
      try simp only [e_fd, e_nck, e_pkt, e_pkf, e_gdtt, e_gdtf, e_gdft, e_gdff, e_ift, e_iff, e_not, e_ln, e_lnT, e_cp, e_cvi, e_ex20, e_ex21, e_ex30, e_ex31, e_ex32, e_add, e_sub, e_mul, e_quo, e_rem, e_and, e_or, e_xor, e_shl, e_shr, e_eql, e_neq, e_lss, e_leq, e_gtr, e_geq, e_beq, e_bne, e_peq1, e_peq2, e_pne1, e_pne2, e_zeq1, e_zeq2, e_zne1, e_zne2, e_feq1, e_fne1, e_feq2, e_fne2, e_seq, e_sne, e_ta1, e_ta2, Nat.zero_add, Nat.add_zero, Bool.not_true, Bool.not_false]
      refine each_r (f := lC) rfl (hl.kp' k5) hk rfl rfl fun w6 r6 hk6 hz6 => ?_
      have k6 := k5.trans hk6
      have r56 := hk6.row' r5
      refine ldn_r r6 (show 0 + 2 ≤ 2 by decide) ?_
      refine ldn_r r56 (show 0 + 2 ≤ 2 by decide) ?_
      refine leg_eq (a := ls[k]) (b := ls[i]) ?_
      have sb := sumL_bt (p := legAt ls[i].a ls[i].s) (ls := ls) hs.1 hs.2 hll (k + 1)
      have st := sumL_take (p := legAt ls[i].a ls[i].s) (sz := sz) hk
      have sb0 := sumL_bt (p := legAt ls[i].a ls[i].s) (ls := ls) hs.1 hs.2 hll k
      unfold s141_p12
      cases hq : legAt ls[i].a ls[i].s ls[k] with
      | true =>
        rw [hq, if_pos rfl] at st
        try simp only [e_fd, e_nck, e_pkt, e_pkf, e_gdtt, e_gdtf, e_gdft, e_gdff, e_ift, e_iff, e_not, e_ln, e_lnT, e_cp, e_cvi, e_ex20, e_ex21, e_ex30, e_ex31, e_ex32, e_add, e_sub, e_mul, e_quo, e_rem, e_and, e_or, e_xor, e_shl, e_shr, e_eql, e_neq, e_lss, e_leq, e_gtr, e_geq, e_beq, e_bne, e_peq1, e_peq2, e_pne1, e_pne2, e_zeq1, e_zeq2, e_zne1, e_zne2, e_feq1, e_fne1, e_feq2, e_fne2, e_seq, e_sne, e_ta1, e_ta2, Nat.zero_add, Nat.add_zero, Bool.not_true, Bool.not_false]
        rw [wrap64_id (by omega) (by omega), inc k (by omega), Int.add_assoc, ← st]
        exact hB2 _ w6 ⟨rfl, k6, r56⟩
      | false =>
        rw [hq, if_neg (by simp), Int.add_zero] at st
        try simp only [e_fd, e_nck, e_pkt, e_pkf, e_gdtt, e_gdtf, e_gdft, e_gdff, e_ift, e_iff, e_not, e_ln, e_lnT, e_cp, e_cvi, e_ex20, e_ex21, e_ex30, e_ex31, e_ex32, e_add, e_sub, e_mul, e_quo, e_rem, e_and, e_or, e_xor, e_shl, e_shr, e_eql, e_neq, e_lss, e_leq, e_gtr, e_geq, e_beq, e_bne, e_peq1, e_peq2, e_pne1, e_pne2, e_zeq1, e_zeq2, e_zne1, e_zne2, e_feq1, e_fne1, e_feq2, e_fne2, e_seq, e_sne, e_ta1, e_ta2, Nat.zero_add, Nat.add_zero, Bool.not_true, Bool.not_false]
        rw [inc k (by omega), ← st]
        exact hB2 _ w6 ⟨rfl, k6, r56⟩
    · rintro l w5 ⟨rfl, k5, r5⟩ B2
      rw [s141_p14_Fe]
      unfold s141_p13
      try simp only [e_fd, e_nck, e_pkt, e_pkf, e_gdtt, e_gdtf, e_gdft, e_gdff, e_ift, e_iff, e_not, e_ln, e_lnT, e_cp, e_cvi, e_ex20, e_ex21, e_ex30, e_ex31, e_ex32, e_add, e_sub, e_mul, e_quo, e_rem, e_and, e_or, e_xor, e_shl, e_shr, e_eql, e_neq, e_lss, e_leq, e_gtr, e_geq, e_beq, e_bne, e_peq1, e_peq2, e_pne1, e_pne2, e_zeq1, e_zeq2, e_zne1, e_zne2, e_feq1, e_fne1, e_feq2, e_fne2, e_seq, e_sne, e_ta1, e_ta2, Nat.zero_add, Nat.add_zero, Bool.not_true, Bool.not_false]
      rw [dnlt]
      try simp only [e_fd, e_nck, e_pkt, e_pkf, e_gdtt, e_gdtf, e_gdft, e_gdff, e_ift, e_iff, e_not, e_ln, e_lnT, e_cp, e_cvi, e_ex20, e_ex21, e_ex30, e_ex31, e_ex32, e_add, e_sub, e_mul, e_quo, e_rem, e_and, e_or, e_xor, e_shl, e_shr, e_eql, e_neq, e_lss, e_leq, e_gtr, e_geq, e_beq, e_bne, e_peq1, e_peq2, e_pne1, e_pne2, e_zeq1, e_zeq2, e_zne1, e_zne2, e_feq1, e_fne1, e_feq2, e_fne2, e_seq, e_sne, e_ta1, e_ta2, Nat.zero_add, Nat.add_zero, Bool.not_true, Bool.not_false]
      rw [List.take_length]
      unfold s141_p11 s141_p11_d
      have kd : Kp Emp w5 (drw w5) := kp_drw
      generalize drw w5 = w6 at kd ⊢
      have k6 := k5.trans kd
      obtain ⟨cl, rv, r, hcg, hro⟩ := (h.kp' k6).ex
      obtain ⟨va, vt, rfl, ha, _⟩ := hcg.ex
      obtain ⟨n, hn⟩ : ∃ n : Nat, ls[i].a = (n : Int) := ⟨ls[i].a.toNat, by omega⟩
      have hn1 : n < C.ats.length := by omega
      rw [hn, attOf_at hn1] at he
      try simp only [e_fd, e_nck, e_pkt, e_pkf, e_gdtt, e_gdtf, e_gdft, e_gdff, e_ift, e_iff, e_not, e_ln, e_lnT, e_cp, e_cvi, e_ex20, e_ex21, e_ex30, e_ex31, e_ex32, e_add, e_sub, e_mul, e_quo, e_rem, e_and, e_or, e_xor, e_shl, e_shr, e_eql, e_neq, e_lss, e_leq, e_gtr, e_geq, e_beq, e_bne, e_peq1, e_peq2, e_pne1, e_pne2, e_zeq1, e_zeq2, e_zne1, e_zne2, e_feq1, e_fne1, e_feq2, e_fne2, e_seq, e_sne, e_ta1, e_ta2, Nat.zero_add, Nat.add_zero, Bool.not_true, Bool.not_false]
      refine ld1_r (v := va) r rfl ?_
      refine ld1_r (kd.row' r5) rfl ?_
      rw [hn]
      refine ha.ix hn1 fun bb o _ hcl => ?_
      try simp only [e_fd, e_nck, e_pkt, e_pkf, e_gdtt, e_gdtf, e_gdft, e_gdff, e_ift, e_iff, e_not, e_ln, e_lnT, e_cp, e_cvi, e_ex20, e_ex21, e_ex30, e_ex31, e_ex32, e_add, e_sub, e_mul, e_quo, e_rem, e_and, e_or, e_xor, e_shl, e_shr, e_eql, e_neq, e_lss, e_leq, e_gtr, e_geq, e_beq, e_bne, e_peq1, e_peq2, e_pne1, e_pne2, e_zeq1, e_zeq2, e_zne1, e_zne2, e_feq1, e_fne1, e_feq2, e_fne2, e_seq, e_sne, e_ta1, e_ta2, Nat.zero_add, Nat.add_zero, Bool.not_true, Bool.not_false]
      refine cls3 hc.1 hc.2 hcl ?_ (Kp.refl _ _)
      try simp only [e_fd, e_nck, e_pkt, e_pkf, e_gdtt, e_gdtf, e_gdft, e_gdff, e_ift, e_iff, e_not, e_ln, e_lnT, e_cp, e_cvi, e_ex20, e_ex21, e_ex30, e_ex31, e_ex32, e_add, e_sub, e_mul, e_quo, e_rem, e_and, e_or, e_xor, e_shl, e_shr, e_eql, e_neq, e_lss, e_leq, e_gtr, e_geq, e_beq, e_bne, e_peq1, e_peq2, e_pne1, e_pne2, e_zeq1, e_zeq2, e_zne1, e_zne2, e_feq1, e_fne1, e_feq2, e_fne2, e_seq, e_sne, e_ta1, e_ta2, Nat.zero_add, Nat.add_zero, Bool.not_true, Bool.not_false]
      unfold s141_p10
      by_cases hq : E + sumL (legAt (n : Nat) ls[i].s) sz ls ≤ attQ C.ats[n] cls
      · rw [decide_eq_true hq, Bool.true_and] at he
        have e1 : ¬ attQ C.ats[n] cls < E + sumL (legAt (n : Nat) ls[i].s) sz ls := by omega
        simp only [e1, decide_false, e_fd, e_nck, e_pkt, e_pkf, e_gdtt, e_gdtf, e_gdft, e_gdff, e_ift, e_iff, e_not, e_ln, e_lnT, e_cp, e_cvi, e_ex20, e_ex21, e_ex30, e_ex31, e_ex32, e_add, e_sub, e_mul, e_quo, e_rem, e_and, e_or, e_xor, e_shl, e_shr, e_eql, e_neq, e_lss, e_leq, e_gtr, e_geq, e_beq, e_bne, e_peq1, e_peq2, e_pne1, e_pne2, e_zeq1, e_zeq2, e_zne1, e_zne2, e_feq1, e_fne1, e_feq2, e_fne2, e_seq, e_sne, e_ta1, e_ta2, Nat.zero_add, Nat.add_zero, Bool.not_true, Bool.not_false]
        unfold s141_p9
        try simp only [e_fd, e_nck, e_pkt, e_pkf, e_gdtt, e_gdtf, e_gdft, e_gdff, e_ift, e_iff, e_not, e_ln, e_lnT, e_cp, e_cvi, e_ex20, e_ex21, e_ex30, e_ex31, e_ex32, e_add, e_sub, e_mul, e_quo, e_rem, e_and, e_or, e_xor, e_shl, e_shr, e_eql, e_neq, e_lss, e_leq, e_gtr, e_geq, e_beq, e_bne, e_peq1, e_peq2, e_pne1, e_pne2, e_zeq1, e_zeq2, e_zne1, e_zne2, e_feq1, e_fne1, e_feq2, e_fne2, e_seq, e_sne, e_ta1, e_ta2, Nat.zero_add, Nat.add_zero, Bool.not_true, Bool.not_false]
        rw [inc i (by omega)]
        exact hBB _ w6 ⟨rfl, k6, he⟩
      · rw [decide_eq_false hq, Bool.false_and] at he
        have e1 : attQ C.ats[n] cls < E + sumL (legAt (n : Nat) ls[i].s) sz ls := by omega
        simp only [e1, decide_true, e_fd, e_nck, e_pkt, e_pkf, e_gdtt, e_gdtf, e_gdft, e_gdff, e_ift, e_iff, e_not, e_ln, e_lnT, e_cp, e_cvi, e_ex20, e_ex21, e_ex30, e_ex31, e_ex32, e_add, e_sub, e_mul, e_quo, e_rem, e_and, e_or, e_xor, e_shl, e_shr, e_eql, e_neq, e_lss, e_leq, e_gtr, e_geq, e_beq, e_bne, e_peq1, e_peq2, e_pne1, e_pne2, e_zeq1, e_zeq2, e_zne1, e_zne2, e_feq1, e_fne1, e_feq2, e_fne2, e_seq, e_sne, e_ta1, e_ta2, Nat.zero_add, Nat.add_zero, Bool.not_true, Bool.not_false]
        rw [he, if_neg (by simp)] at hK
        exact hK w6 k6
  · rintro l w2 ⟨rfl, k2, he⟩ B
    rw [s141_p17_Fe]
    unfold s141_p16
    try simp only [e_fd, e_nck, e_pkt, e_pkf, e_gdtt, e_gdtf, e_gdft, e_gdff, e_ift, e_iff, e_not, e_ln, e_lnT, e_cp, e_cvi, e_ex20, e_ex21, e_ex30, e_ex31, e_ex32, e_add, e_sub, e_mul, e_quo, e_rem, e_and, e_or, e_xor, e_shl, e_shr, e_eql, e_neq, e_lss, e_leq, e_gtr, e_geq, e_beq, e_bne, e_peq1, e_peq2, e_pne1, e_pne2, e_zeq1, e_zeq2, e_zne1, e_zne2, e_feq1, e_fne1, e_feq2, e_fne2, e_seq, e_sne, e_ta1, e_ta2, Nat.zero_add, Nat.add_zero, Bool.not_true, Bool.not_false]
    rw [dnlt]
    try simp only [e_fd, e_nck, e_pkt, e_pkf, e_gdtt, e_gdtf, e_gdft, e_gdff, e_ift, e_iff, e_not, e_ln, e_lnT, e_cp, e_cvi, e_ex20, e_ex21, e_ex30, e_ex31, e_ex32, e_add, e_sub, e_mul, e_quo, e_rem, e_and, e_or, e_xor, e_shl, e_shr, e_eql, e_neq, e_lss, e_leq, e_gtr, e_geq, e_beq, e_bne, e_peq1, e_peq2, e_pne1, e_pne2, e_zeq1, e_zeq2, e_zne1, e_zne2, e_feq1, e_fne1, e_feq2, e_fne2, e_seq, e_sne, e_ta1, e_ta2, Nat.zero_add, Nat.add_zero, Bool.not_true, Bool.not_false]
    rw [List.drop_length, List.all_nil] at he
    rw [he, if_pos rfl] at hK
    exact fit_tr cv (h.kp' k2) (hl.kp' k2) hv fun w3 k3 => hK w3 (k2.trans k3)
end
end Go.Proofs.Qxb6500896aGreatDoor
