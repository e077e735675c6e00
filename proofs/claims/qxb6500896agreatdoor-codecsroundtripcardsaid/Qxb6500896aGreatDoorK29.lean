import Derived.Test.Qxb6500896aGreatDoorK28
namespace Go.Proofs.Qxb6500896aGreatDoor
open Go.Sh Go.RowKit
set_option linter.unusedVariables false
set_option linter.unusedSimpArgs false

/-- legs that a table can be asked about -/
def LV (C : Cfg) (ls : List Leg) : Prop := ∀ l ∈ ls, (0 ≤ l.a ∧ l.a < ((C.ats.length : Nat) : Int)) ∧ 0 ≤ l.s ∧ l.s ≤ 4398046511104
def trLegs (C : Cfg) : List Leg → Bool
  | [] => true
  | l :: rest => nextOk C l rest && trLegs C rest
theorem trLegs_at {C : Cfg} : ∀ {ls : List Leg} {i : Nat} (h : i < ls.length) (h1 : 0 < i), (trLegs C (ls.drop (i - 1))) = (decide ((ls[i - 1]'(by omega)).s + (attOf C (ls[i - 1]'(by omega)).a).dw + trOf C (ls[i - 1]'(by omega)).a ls[i].a ≤ ls[i].s) && trLegs C (ls.drop i)) := by
  intro ls i h h1
  rw [List.drop_eq_getElem_cons (by omega : i - 1 < ls.length), trLegs, show i - 1 + 1 = i by omega, List.drop_eq_getElem_cons h, nextOk]
theorem attOf_at {C : Cfg} {n : Nat} (h : n < C.ats.length) : attOf C ((n : Nat) : Int) = C.ats[n] := by
  unfold attOf
  rw [Int.toNat_natCast, List.getElem?_eq_getElem h]; rfl
section
variable {F G S : Nat → Prop} {w w' w1 : World} {v lv : Value} {t : Nat} {C : Cfg} {rs : List Rec} {K : Value → World → Prop} {ls : List Leg} {B1 : List Value → World → Prop}
theorem tr_of {m k : Nat} (cv : CV C) (hm : m < C.ats.length) (hk : k < C.ats.length) : ∃ (h1 : m < C.tr.length) (h2 : k < (C.tr[m]).length), trOf C (m : Nat) (k : Nat) = C.tr[m][k] ∧ 0 ≤ C.tr[m][k] ∧ C.tr[m][k] ≤ 1048576 := by
  have e1 := cv.tl
  have h1 : m < C.tr.length := by omega
  have e2 := cv.tr _ (List.getElem_mem h1)
  have h2 : k < (C.tr[m]).length := by omega
  refine ⟨h1, h2, ?_, e2.2 _ (List.getElem_mem h2)⟩
  unfold trOf
  rw [Int.toNat_natCast, Int.toNat_natCast, List.getElem?_eq_getElem h1]
  show (C.tr[m][k]?).getD 0 = _
  rw [List.getElem?_eq_getElem h2]; rfl
/-- one test of two legs that follow one another -/
theorem fit_tr4 {a b : Nat} {i : Int} {fr to : Leg} (cv : CV C) (h : Tr F w t C rs) (hfr : (0 ≤ fr.a ∧ fr.a < ((C.ats.length : Nat) : Int)) ∧ 0 ≤ fr.s ∧ fr.s ≤ 4398046511104) (hto : (0 ≤ to.a ∧ to.a < ((C.ats.length : Nat) : Int)) ∧ 0 ≤ to.s ∧ to.s ≤ 4398046511104)
    (ra : Row w a 116 (lC fr)) (rb : Row w b 116 (lC to)) (hK : ∀ w', Kp Emp w w' → s141_p3 K B1 (P t 0) lv (I i) (.bool (!decide (fr.s + (attOf C fr.a).dw + trOf C fr.a to.a ≤ to.s))) w') : s141_p4 K B1 (P t 0) lv (I i) (P a 0) (P b 0) w := by
  obtain ⟨cl, rv, r, hc, hro⟩ := h.ex
  obtain ⟨va, vt, rfl, ha, tvs, ht1, ht2, ht3⟩ := hc.ex
  obtain ⟨⟨f0, f1⟩, f2, f3⟩ := hfr
  obtain ⟨⟨g0, g1⟩, g2, g3⟩ := hto
  obtain ⟨m, hm⟩ : ∃ m : Nat, fr.a = (m : Int) := ⟨fr.a.toNat, by omega⟩
  obtain ⟨k, hk⟩ : ∃ k : Nat, to.a = (k : Int) := ⟨to.a.toNat, by omega⟩
  have hm1 : m < C.ats.length := by omega
  have hk1 : k < C.ats.length := by omega
  obtain ⟨t1, t2, t3, t4, t5⟩ := tr_of cv hm1 hk1
  obtain ⟨_, ⟨d0, d1⟩, _⟩ := cv.at_ _ (List.getElem_mem hm1)
  unfold s141_p4 s141_p4_d
  have kd : Kp Emp w (drw w) := kp_drw
  generalize drw w = w0 at kd ⊢
  have ra0 := kd.row' ra
  have rb0 := kd.row' rb
  have r0 := kd.row' r
  have hK := hK w0 kd
  try simp only [e_fd, e_nck, e_pkt, e_pkf, e_gdtt, e_gdtf, e_gdft, e_gdff, e_ift, e_iff, e_not, e_ln, e_lnT, e_cp, e_cvi, e_ex20, e_ex21, e_ex30, e_ex31, e_ex32, e_add, e_sub, e_mul, e_quo, e_rem, e_and, e_or, e_xor, e_shl, e_shr, e_eql, e_neq, e_lss, e_leq, e_gtr, e_geq, e_beq, e_bne, e_peq1, e_peq2, e_pne1, e_pne2, e_zeq1, e_zeq2, e_zne1, e_zne2, e_feq1, e_fne1, e_feq2, e_fne2, e_seq, e_sne, e_ta1, e_ta2, Nat.zero_add, Nat.add_zero, Bool.not_true, Bool.not_false]
  refine ld1_r rb0 rfl ?_
  refine ld1_r ra0 rfl ?_
  try simp only [e_fd, e_nck, e_pkt, e_pkf, e_gdtt, e_gdtf, e_gdft, e_gdff, e_ift, e_iff, e_not, e_ln, e_lnT, e_cp, e_cvi, e_ex20, e_ex21, e_ex30, e_ex31, e_ex32, e_add, e_sub, e_mul, e_quo, e_rem, e_and, e_or, e_xor, e_shl, e_shr, e_eql, e_neq, e_lss, e_leq, e_gtr, e_geq, e_beq, e_bne, e_peq1, e_peq2, e_pne1, e_pne2, e_zeq1, e_zeq2, e_zne1, e_zne2, e_feq1, e_fne1, e_feq2, e_fne2, e_seq, e_sne, e_ta1, e_ta2, Nat.zero_add, Nat.add_zero, Bool.not_true, Bool.not_false]
  refine ld1_r (v := va) r0 rfl ?_
  refine ld1_r ra0 rfl ?_
  rw [hm]
  refine (ha.kp' kd).ix hm1 fun bb o _ hcl => ?_
  try simp only [e_fd, e_nck, e_pkt, e_pkf, e_gdtt, e_gdtf, e_gdft, e_gdff, e_ift, e_iff, e_not, e_ln, e_lnT, e_cp, e_cvi, e_ex20, e_ex21, e_ex30, e_ex31, e_ex32, e_add, e_sub, e_mul, e_quo, e_rem, e_and, e_or, e_xor, e_shl, e_shr, e_eql, e_neq, e_lss, e_leq, e_gtr, e_geq, e_beq, e_bne, e_peq1, e_peq2, e_pne1, e_pne2, e_zeq1, e_zeq2, e_zne1, e_zne2, e_feq1, e_fne1, e_feq2, e_fne2, e_seq, e_sne, e_ta1, e_ta2, Nat.zero_add, Nat.add_zero, Bool.not_true, Bool.not_false]
  refine hcl.ld1 (j := 1) rfl ?_
  try simp only [e_fd, e_nck, e_pkt, e_pkf, e_gdtt, e_gdtf, e_gdft, e_gdff, e_ift, e_iff, e_not, e_ln, e_lnT, e_cp, e_cvi, e_ex20, e_ex21, e_ex30, e_ex31, e_ex32, e_add, e_sub, e_mul, e_quo, e_rem, e_and, e_or, e_xor, e_shl, e_shr, e_eql, e_neq, e_lss, e_leq, e_gtr, e_geq, e_beq, e_bne, e_peq1, e_peq2, e_pne1, e_pne2, e_zeq1, e_zeq2, e_zne1, e_zne2, e_feq1, e_fne1, e_feq2, e_fne2, e_seq, e_sne, e_ta1, e_ta2, Nat.zero_add, Nat.add_zero, Bool.not_true, Bool.not_false]
  refine ld1_r (v := vt) r0 rfl ?_
  refine ld1_r ra0 rfl ?_
  rw [hm]
  refine (ht1.kp' kd).ix (i := m) (by omega) fun bb o _ hcl => ?_
  refine hcl.ld0 rfl ?_
  refine ld1_r rb0 rfl ?_
  rw [hk]
  have h3 := ht3 m (by omega) t1
  refine (h3.kp' kd).ix t2 fun bb o _ hcl => ?_
  refine hcl.ld0 rfl ?_
  try simp only [e_fd, e_nck, e_pkt, e_pkf, e_gdtt, e_gdtf, e_gdft, e_gdff, e_ift, e_iff, e_not, e_ln, e_lnT, e_cp, e_cvi, e_ex20, e_ex21, e_ex30, e_ex31, e_ex32, e_add, e_sub, e_mul, e_quo, e_rem, e_and, e_or, e_xor, e_shl, e_shr, e_eql, e_neq, e_lss, e_leq, e_gtr, e_geq, e_beq, e_bne, e_peq1, e_peq2, e_pne1, e_pne2, e_zeq1, e_zeq2, e_zne1, e_zne2, e_feq1, e_fne1, e_feq2, e_fne2, e_seq, e_sne, e_ta1, e_ta2, Nat.zero_add, Nat.add_zero, Bool.not_true, Bool.not_false]
  rw [hm, hk, attOf_at hm1, t3] at hK
  rw [wrap64_id (n := fr.s + C.ats[m].dw) (by omega) (by omega), wrap64_id (by omega) (by omega)]
  have e1 : decide (to.s < fr.s + C.ats[m].dw + C.tr[m][k]) = !decide (fr.s + C.ats[m].dw + C.tr[m][k] ≤ to.s) := by
    by_cases q : fr.s + C.ats[m].dw + C.tr[m][k] ≤ to.s
    · rw [decide_eq_true q, decide_eq_false (by omega)]; rfl
    · rw [decide_eq_false q, decide_eq_true (by omega)]; rfl
  rw [e1]
  exact hK
set_option maxHeartbeats 4000000 in
theorem fit_tr5 {i : Nat} (hi : i < ls.length) (h0 : 0 < i) (hl : Ar lC 2 G w lv ls)
    (fin : ∀ w' a b, Kp Emp w w' → Row w' a 116 (lC (ls[i - 1]'(by omega))) → Row w' b 116 (lC ls[i]) → s141_p4 K B1 (P t 0) lv (I (i : Nat)) (P a 0) (P b 0) w') : s141_p5 K B1 (P t 0) lv (I (i : Nat)) w := by
  unfold s141_p5 s141_p5_d
  have kd : Kp Emp w (drw w) := kp_drw
  generalize drw w = w0 at kd ⊢
  have hl0 := hl.kp' kd
  have hll := hl.len
  rcases hl0.2 with ⟨a, cap, _, q⟩ | ⟨lb, o, cap, rfl, _, _, _, hc⟩
  · rw [q] at hi; simp at hi
  have cT := hc i hi
  have cF := hc (i - 1) (by omega)
  have ix : ∀ (k : Nat), k < ls.length → ∀ (X : Value → World → Prop) (w' : World), ixs 2 (.slice (some ⟨lb, o, none⟩) ls.length cap) (.int .i64 (k : Nat)) X w' = X (P lb (o + k * 2)) w' := by
    intro k hk X w'
    have e1 : ((k : Int)).toNat = k := by omega
    apply propext
    constructor
    · rintro ⟨_, h⟩
      rw [e1, add_mk] at h
      exact h
    · intro h
      refine ⟨⟨by omega, by omega⟩, ?_⟩
      rw [e1, add_mk]
      exact h
  have esub : IntKind.i64.wrap (((i : Nat) : Int) - 1) = ((i - 1 : Nat) : Int) := by rw [wrap64_id (by omega) (by omega)]; omega
  have fin1 : ∀ w' a b, PS2 116 w0 w' a (lC (ls[i - 1]'(by omega))) b (lC ls[i]) → s141_p4 K B1 (P t 0) (.slice (some ⟨lb, o, none⟩) ls.length cap) (I (i : Nat)) (P a 0) (P b 0) w' := fun w' a b s => fin w' a b (kd.trans (ps2 s).1) (ps2 s).2.1 (ps2 s).2.2
  have fin2 : ∀ w' a b, PS2 116 w0 w' b (lC ls[i]) a (lC (ls[i - 1]'(by omega))) → s141_p4 K B1 (P t 0) (.slice (some ⟨lb, o, none⟩) ls.length cap) (I (i : Nat)) (P a 0) (P b 0) w' := fun w' a b s => fin w' a b (kd.trans (ps2 s).1) (ps2 s).2.2 (ps2 s).2.1
  try simp only [e_fd, e_nck, e_pkt, e_pkf, e_gdtt, e_gdtf, e_gdft, e_gdff, e_ift, e_iff, e_not, e_ln, e_lnT, e_cp, e_cvi, e_ex20, e_ex21, e_ex30, e_ex31, e_ex32, e_add, e_sub, e_mul, e_quo, e_rem, e_and, e_or, e_xor, e_shl, e_shr, e_eql, e_neq, e_lss, e_leq, e_gtr, e_geq, e_beq, e_bne, e_peq1, e_peq2, e_pne1, e_pne2, e_zeq1, e_zeq2, e_zne1, e_zne2, e_feq1, e_fne1, e_feq2, e_fne2, e_seq, e_sne, e_ta1, e_ta2, Nat.zero_add, Nat.add_zero, Bool.not_true, Bool.not_false]
  simp only [ix i hi, esub, ix (i - 1) (by omega), and_self]
  have s0 : Kp Emp w0 w0 := Kp.refl _ _
  revert s0
  repeat' first
    | refine ps_nw0 fun _ _ => ?_
    | refine ps_nw1 fun _ _ => ?_
    | refine ps_st1 rfl rfl rfl fun _ => ?_
    | refine ps_st2a rfl rfl rfl fun _ => ?_
    | refine ps_st2b rfl rfl rfl fun _ => ?_
    | refine ps_ldA cF rfl ?_
    | refine ps_ldA cT rfl ?_
    | refine ps_ldB cF rfl ?_
    | refine ps_ldB cT rfl ?_
    | refine ps_ldC cF rfl ?_
    | refine ps_ldC cT rfl ?_
    | refine ps_and ?_ ?_
  all_goals first | exact fin1 _ _ _ | exact fin2 _ _ _
/-- the legs are far enough apart -/
theorem fit_tr (cv : CV C) (h : Tr F w t C rs) (hl : Ar lC 2 G w lv ls) (hv : LV C ls) (hK : ∀ w', Kp Emp w w' → K (I (if trLegs C ls then 0 else 7)) w') : s141_p8 K (P t 0) lv w := by
  have hll := hl.len
  unfold s141_p8 s141_p7
  refine loop_n (ls.length - 1) (fun i l w' => l = [P t 0, lv, I (i + 1 : Nat)] ∧ Kp Emp w w' ∧ trLegs C ls = trLegs C (ls.drop i)) ⟨rfl, Kp.refl _ _, by rw [List.drop_zero]⟩ ?_ ?_
  · rintro i l w2 hi ⟨rfl, k2, he⟩ B hB
    have hi1 : i + 1 < ls.length := by omega
    rw [s141_p7_Fe]
    unfold s141_p6
    refine hl.ln ?_
    try simp only [e_fd, e_nck, e_pkt, e_pkf, e_gdtt, e_gdtf, e_gdft, e_gdff, e_ift, e_iff, e_not, e_ln, e_lnT, e_cp, e_cvi, e_ex20, e_ex21, e_ex30, e_ex31, e_ex32, e_add, e_sub, e_mul, e_quo, e_rem, e_and, e_or, e_xor, e_shl, e_shr, e_eql, e_neq, e_lss, e_leq, e_gtr, e_geq, e_beq, e_bne, e_peq1, e_peq2, e_pne1, e_pne2, e_zeq1, e_zeq2, e_zne1, e_zne2, e_feq1, e_fne1, e_feq2, e_fne2, e_seq, e_sne, e_ta1, e_ta2, Nat.zero_add, Nat.add_zero, Bool.not_true, Bool.not_false]
    rw [dlt hi1]
    try simp only [e_fd, e_nck, e_pkt, e_pkf, e_gdtt, e_gdtf, e_gdft, e_gdff, e_ift, e_iff, e_not, e_ln, e_lnT, e_cp, e_cvi, e_ex20, e_ex21, e_ex30, e_ex31, e_ex32, e_add, e_sub, e_mul, e_quo, e_rem, e_and, e_or, e_xor, e_shl, e_shr, e_eql, e_neq, e_lss, e_leq, e_gtr, e_geq, e_beq, e_bne, e_peq1, e_peq2, e_pne1, e_pne2, e_zeq1, e_zeq2, e_zne1, e_zne2, e_feq1, e_fne1, e_feq2, e_fne2, e_seq, e_sne, e_ta1, e_ta2, Nat.zero_add, Nat.add_zero, Bool.not_true, Bool.not_false]
    refine fit_tr5 hi1 (by omega) (hl.kp' k2) fun w3 a b k3 ra rb => ?_
    have k3' := k2.trans k3
    refine fit_tr4 cv (h.kp' k3') (hv _ (List.getElem_mem _)) (hv _ (List.getElem_mem _)) ra rb fun w4 k4 => ?_
    have e2 : trLegs C (ls.drop i) = (_ && trLegs C (ls.drop (i + 1))) := trLegs_at (C := C) hi1 (by omega)
    rw [e2] at he
    unfold s141_p3
    cases hc : decide ((ls[i + 1 - 1]'(by omega)).s + (attOf C (ls[i + 1 - 1]'(by omega)).a).dw + trOf C (ls[i + 1 - 1]'(by omega)).a ls[i + 1].a ≤ ls[i + 1].s) with
    | true =>
      rw [hc, Bool.true_and] at he
      simp only [Bool.not_true, e_fd, e_nck, e_pkt, e_pkf, e_gdtt, e_gdtf, e_gdft, e_gdff, e_ift, e_iff, e_not, e_ln, e_lnT, e_cp, e_cvi, e_ex20, e_ex21, e_ex30, e_ex31, e_ex32, e_add, e_sub, e_mul, e_quo, e_rem, e_and, e_or, e_xor, e_shl, e_shr, e_eql, e_neq, e_lss, e_leq, e_gtr, e_geq, e_beq, e_bne, e_peq1, e_peq2, e_pne1, e_pne2, e_zeq1, e_zeq2, e_zne1, e_zne2, e_feq1, e_fne1, e_feq2, e_fne2, e_seq, e_sne, e_ta1, e_ta2, Nat.zero_add, Nat.add_zero, Bool.not_true, Bool.not_false]
      unfold s141_p2
      try simp only [e_fd, e_nck, e_pkt, e_pkf, e_gdtt, e_gdtf, e_gdft, e_gdff, e_ift, e_iff, e_not, e_ln, e_lnT, e_cp, e_cvi, e_ex20, e_ex21, e_ex30, e_ex31, e_ex32, e_add, e_sub, e_mul, e_quo, e_rem, e_and, e_or, e_xor, e_shl, e_shr, e_eql, e_neq, e_lss, e_leq, e_gtr, e_geq, e_beq, e_bne, e_peq1, e_peq2, e_pne1, e_pne2, e_zeq1, e_zeq2, e_zne1, e_zne2, e_feq1, e_fne1, e_feq2, e_fne2, e_seq, e_sne, e_ta1, e_ta2, Nat.zero_add, Nat.add_zero, Bool.not_true, Bool.not_false]
      rw [inc (i + 1) (by omega)]
      exact hB _ w4 ⟨rfl, k3'.trans k4, he⟩
    | false =>
      rw [hc, Bool.false_and] at he
      simp only [Bool.not_false, e_fd, e_nck, e_pkt, e_pkf, e_gdtt, e_gdtf, e_gdft, e_gdff, e_ift, e_iff, e_not, e_ln, e_lnT, e_cp, e_cvi, e_ex20, e_ex21, e_ex30, e_ex31, e_ex32, e_add, e_sub, e_mul, e_quo, e_rem, e_and, e_or, e_xor, e_shl, e_shr, e_eql, e_neq, e_lss, e_leq, e_gtr, e_geq, e_beq, e_bne, e_peq1, e_peq2, e_pne1, e_pne2, e_zeq1, e_zeq2, e_zne1, e_zne2, e_feq1, e_fne1, e_feq2, e_fne2, e_seq, e_sne, e_ta1, e_ta2, Nat.zero_add, Nat.add_zero, Bool.not_true, Bool.not_false]
      rw [he] at hK
      exact hK w4 (k3'.trans k4)
  · rintro l w2 ⟨rfl, k2, he⟩ B
    rw [s141_p7_Fe]
    unfold s141_p6
    refine hl.ln ?_
    try simp only [e_fd, e_nck, e_pkt, e_pkf, e_gdtt, e_gdtf, e_gdft, e_gdff, e_ift, e_iff, e_not, e_ln, e_lnT, e_cp, e_cvi, e_ex20, e_ex21, e_ex30, e_ex31, e_ex32, e_add, e_sub, e_mul, e_quo, e_rem, e_and, e_or, e_xor, e_shl, e_shr, e_eql, e_neq, e_lss, e_leq, e_gtr, e_geq, e_beq, e_bne, e_peq1, e_peq2, e_pne1, e_pne2, e_zeq1, e_zeq2, e_zne1, e_zne2, e_feq1, e_fne1, e_feq2, e_fne2, e_seq, e_sne, e_ta1, e_ta2, Nat.zero_add, Nat.add_zero, Bool.not_true, Bool.not_false]
    rw [show decide ((((ls.length - 1 + 1 : Nat)) : Int) < ((ls.length : Nat) : Int)) = false from decide_eq_false (by omega)]
    try simp only [e_fd, e_nck, e_pkt, e_pkf, e_gdtt, e_gdtf, e_gdft, e_gdff, e_ift, e_iff, e_not, e_ln, e_lnT, e_cp, e_cvi, e_ex20, e_ex21, e_ex30, e_ex31, e_ex32, e_add, e_sub, e_mul, e_quo, e_rem, e_and, e_or, e_xor, e_shl, e_shr, e_eql, e_neq, e_lss, e_leq, e_gtr, e_geq, e_beq, e_bne, e_peq1, e_peq2, e_pne1, e_pne2, e_zeq1, e_zeq2, e_zne1, e_zne2, e_feq1, e_fne1, e_feq2, e_fne2, e_seq, e_sne, e_ta1, e_ta2, Nat.zero_add, Nat.add_zero, Bool.not_true, Bool.not_false]
    unfold s141_p1
    have e3 : trLegs C (ls.drop (ls.length - 1)) = true := by
      rcases Nat.eq_zero_or_pos ls.length with q | q
      · rw [List.drop_of_length_le (by omega)]; rfl
      · rw [List.drop_eq_getElem_cons (by omega : ls.length - 1 < ls.length), List.drop_of_length_le (by omega)]; rfl
    rw [he, e3] at hK
    exact hK w2 k2
end
end Go.Proofs.Qxb6500896aGreatDoor
