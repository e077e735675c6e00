import Derived.Test.Qxb6500896aGreatK14
namespace Go.Proofs.Qxb6500896aGreat
open Go.Sh Go.RowKit
set_option linter.unusedVariables false
set_option linter.unusedSimpArgs false

def attQ (a : Att) (c : Int) : Int := if c = 0 then a.q0 else if c = 1 then a.q1 else a.q2
def attOf (C : Cfg) (a : Int) : Att := C.ats[a.toNat]?.getD ⟨0, 0, 0, 0, 0⟩
def trOf (C : Cfg) (a b : Int) : Int := ((C.tr[a.toNat]?.getD [])[b.toNat]?).getD 0
def capOk (C : Cfg) (rs : List Rec) (l : Leg) : Bool := (List.range (attOf C l.a).dw.toNat).all fun k => decide (inside C rs l.a (l.s + ((k : Nat) : Int)) 0 ≤ (attOf C l.a).cap)
def nextOk (C : Cfg) (l : Leg) : List Leg → Bool
  | [] => true
  | n :: _ => decide (l.s + (attOf C l.a).dw + trOf C l.a n.a ≤ n.s)
def chkLoadL (C : Cfg) (rs : List Rec) (cls : Int) : List Leg → Bool
  | [] => true
  | l :: rest => capOk C rs l && decide (entered rs l.a l.s cls 0 ≤ attQ (attOf C l.a) cls) && nextOk C l rest && chkLoadL C rs cls rest
def chkLoad (C : Cfg) (rs : List Rec) : Bool := rs.all fun r => !live r.st || chkLoadL C rs r.cl r.legs
/-- what a record is known to be when the loads are tested -/
structure RL (C : Cfg) (r : Rec) : Prop where
  rb : RB r
  rn : RN r
  cl : r.cl < 3
  at_ : ∀ l ∈ r.legs, l.a < ((C.ats.length : Nat) : Int)
theorem range_all {p : Nat → Bool} {n i : Nat} (hi : i < n) (h : (List.range i).all p = true) : (List.range (i + 1)).all p = p i := by
  rw [List.range_succ, List.all_append, h, Bool.true_and]; simp
theorem range_bad {p : Nat → Bool} {n i : Nat} (hi : i < n) (h : p i = false) : (List.range n).all p = false := by
  rw [List.all_eq_false]
  exact ⟨i, List.mem_range.2 hi, by simp [h]⟩
section
variable {F M : Nat → Prop} {w w' w1 : World} {v lv rv : Value} {l : List Value} {C : Cfg} {r : Rec} {rs : List Rec} {ls : List (List Int)} {K : Value → World → Prop} {now : Int}
theorem load_ok (hc : Cg F w l C) (hro : Ro F w rv rs) (hrl : rs.length ≤ 16777216) (hK : ∀ w' t, Kp Emp w w' → w.heap.size ≤ t → Tr F w' t C rs → K (P t 0) w') : cl Tryz.prog 173 #[.agg l.toArray, rv] K w := by
  have hcl := hc.len
  have hsc : scal rv = true := by obtain ⟨its, _, h2, _⟩ := hro; exact h2.scal
  apply c173
  unfold s173_p1
  refine nw_r fun w1 r1 hk1 hz1 => ?_
  replace r1 : Row w1 w.heap.size 34 l := r1
  refine ldn_r r1 (by omega) ?_
  have el : (l.drop 0).take 14 = l := by rw [List.drop_zero, List.take_of_length_le (by omega)]
  rw [el]
  refine bdq_r (l := l ++ [rv]) ?_ ?_
  · rw [fillL_agg _ 0 14 l _ hcl (by simp), show (some (14, 1), rv) = ((some (14, 1) : Option (Nat × Nat)), rv) from rfl]
    have e : rv.cells.toList = [rv] := by rw [scal_cells hsc]
    simp only [fillL, e, List.take_zero, List.nil_append]
    have e2 : List.drop (0 + 14) [nilS, nilS, I 0, I 0, I 0, I 0, I 0, I 0, I 0, I 0, I 0, I 0, I 0, I 0, nilS] = [nilS] := rfl
    rw [e2]
    have e3 : Nat.ble (14 + 1) (l ++ [nilS]).length = true := by rw [Nat.ble_eq, List.length_append, hcl]; decide
    simp only [e3]
    have e4 : List.take 14 (l ++ [nilS]) = l := by rw [List.take_append_of_le_length (by omega), List.take_of_length_le (by omega)]
    have e5 : List.drop (14 + 1) (l ++ [nilS]) = [] := by rw [List.drop_eq_nil_iff, List.length_append, hcl]; decide
    rw [e4, e5]
    rfl
  · refine nw_r fun w2 r2 hk2 hz2 => ?_
    have k2 := hk1.trans hk2
    exact hK w2 w1.heap.size k2 (by omega) ⟨⟨l, rv, r2, hc.kp' k2, hro.kp' k2⟩, hrl⟩
theorem checkLoad_ok (hc : Cg F w l C) (cv : CV C) (hro : Ro F w rv rs) (hrl : rs.length ≤ 16777216) (hR : ∀ r ∈ rs, RL C r)
    (hK : ∀ w', Kp Emp w w' → K (.bool (chkLoad C rs)) w') : cl Tryz.prog 161 #[.agg l.toArray, rv] K w := by
  have hc0 := hc
  obtain ⟨va, vt, rfl, ha, tvs, ht1, ht2, ht3⟩ := hc.ex
  have al := cv.al.2
  have hB : RBs rs := fun r hr => (hR r hr).rb
  apply c161
  unfold s161_p21
  refine nw_r fun w1 r1 hk1 hz1 => ?_
  replace r1 : Row w1 w.heap.size 34 (C.cells va vt) := r1
  refine ldn_r r1 (show 0 + 14 ≤ 14 by decide) ?_
  refine load_ok (hc0.kp' hk1) (hro.kp' hk1) hrl fun w2 t hk2 htz htr => ?_
  have k2 := hk1.trans hk2
  have r12 := hk2.row' r1
  refine hro.ln ?_
  obtain ⟨its, i1, i2, i3⟩ := hro
  have hil : its.length = rs.length := by rw [← i1, List.length_map]
  have iti : ∀ (i : Nat) (h : i < its.length) (h2 : i < rs.length), its[i].1 = rs[i] := fun i h h2 => by
    have : (its.map (·.1))[i]? = rs[i]? := by rw [i1]
    rw [List.getElem?_map, List.getElem?_eq_getElem h, List.getElem?_eq_getElem h2] at this
    exact Option.some.inj this
  unfold s161_p20
  unfold chkLoad at hK
  refine loop_n rs.length (fun i l w' => l = [P w.heap.size 0, P t 0, rv, I (rs.length : Nat), I (i : Nat)] ∧ Kp Emp w w' ∧ Row w' w.heap.size 34 (C.cells va vt) ∧ Tr F w' t C rs ∧ (rs.take i).all (fun r => !live r.st || chkLoadL C rs r.cl r.legs) = true) ⟨rfl, k2, r12, htr, rfl⟩ ?_ ?_
  · rintro i l w3 hi ⟨rfl, k3, r13, tr3, hall⟩ B hB1
    rw [s161_p20_Fe]
    unfold s161_p19
    simp only [dlt hi, e_fd, e_nck, e_pkt, e_pkf, e_gdtt, e_gdtf, e_gdft, e_gdff, e_ift, e_iff, e_not, e_ln, e_lnT, e_cp, e_cvi, e_ex20, e_ex21, e_ex30, e_ex31, e_ex32, e_add, e_sub, e_mul, e_quo, e_rem, e_and, e_or, e_xor, e_shl, e_shr, e_eql, e_neq, e_lss, e_leq, e_gtr, e_geq, e_beq, e_bne, e_peq1, e_peq2, e_pne1, e_pne2, e_zeq1, e_zeq2, e_zne1, e_zne2, e_feq1, e_fne1, e_feq2, e_fne2, e_seq, e_sne, e_ta1, e_ta2, Nat.zero_add, Nat.add_zero, Bool.not_true, Bool.not_false]
    unfold s161_p18
    have hi2 : i < its.length := by omega
    have hlg := i3 _ (List.getElem_mem hi2)
    have ei := iti i hi2 hi
    refine each_r rfl (i2.kp' k3) hi2 (rC_len _) (rC_sc hlg.scal) fun w4 r4 hk4 hz4 => ?_
    generalize its[i] = p at ei hlg r4
    obtain ⟨rr, lvv⟩ := p
    simp only at ei hlg
    subst ei
    have k4 := k3.trans hk4
    have r14 := hk4.row' r13
    have tr4 := tr3.kp' hk4
    have hRi := hR _ (List.getElem_mem hi)
    have nxt : ∀ w5, Kp Emp w w5 → Row w5 w.heap.size 34 (C.cells va vt) → Tr F w5 t C rs → (!live rs[i].st || chkLoadL C rs rs[i].cl rs[i].legs) = true → s161_p2 K B (P w.heap.size 0) (P t 0) rv (I (rs.length : Nat)) (I (i : Nat)) w5 := by
      intro w5 k5 r5 t5 he
      unfold s161_p2
      try simp only [e_fd, e_nck, e_pkt, e_pkf, e_gdtt, e_gdtf, e_gdft, e_gdff, e_ift, e_iff, e_not, e_ln, e_lnT, e_cp, e_cvi, e_ex20, e_ex21, e_ex30, e_ex31, e_ex32, e_add, e_sub, e_mul, e_quo, e_rem, e_and, e_or, e_xor, e_shl, e_shr, e_eql, e_neq, e_lss, e_leq, e_gtr, e_geq, e_beq, e_bne, e_peq1, e_peq2, e_pne1, e_pne2, e_zeq1, e_zeq2, e_zne1, e_zne2, e_feq1, e_fne1, e_feq2, e_fne2, e_seq, e_sne, e_ta1, e_ta2, Nat.zero_add, Nat.add_zero, Bool.not_true, Bool.not_false]
      rw [inc i (by omega)]
      exact hB1 _ _ ⟨rfl, k5, r5, t5, by rw [all_take hi hall]; exact he⟩
    try simp only [e_fd, e_nck, e_pkt, e_pkf, e_gdtt, e_gdtf, e_gdft, e_gdff, e_ift, e_iff, e_not, e_ln, e_lnT, e_cp, e_cvi, e_ex20, e_ex21, e_ex30, e_ex31, e_ex32, e_add, e_sub, e_mul, e_quo, e_rem, e_and, e_or, e_xor, e_shl, e_shr, e_eql, e_neq, e_lss, e_leq, e_gtr, e_geq, e_beq, e_bne, e_peq1, e_peq2, e_pne1, e_pne2, e_zeq1, e_zeq2, e_zne1, e_zne2, e_feq1, e_fne1, e_feq2, e_fne2, e_seq, e_sne, e_ta1, e_ta2, Nat.zero_add, Nat.add_zero, Bool.not_true, Bool.not_false]
    refine ld1_r r4 rfl ?_
    refine live_ok ?_
    cases hlv : live rs[i].st with
    | false =>
      simp only [Bool.not_false, e_fd, e_nck, e_pkt, e_pkf, e_gdtt, e_gdtf, e_gdft, e_gdff, e_ift, e_iff, e_not, e_ln, e_lnT, e_cp, e_cvi, e_ex20, e_ex21, e_ex30, e_ex31, e_ex32, e_add, e_sub, e_mul, e_quo, e_rem, e_and, e_or, e_xor, e_shl, e_shr, e_eql, e_neq, e_lss, e_leq, e_gtr, e_geq, e_beq, e_bne, e_peq1, e_peq2, e_pne1, e_pne2, e_zeq1, e_zeq2, e_zne1, e_zne2, e_feq1, e_fne1, e_feq2, e_fne2, e_seq, e_sne, e_ta1, e_ta2, Nat.zero_add, Nat.add_zero, Bool.not_true, Bool.not_false]
      exact nxt w4 k4 r14 tr4 (by rw [hlv]; rfl)
    | true =>
      simp only [Bool.not_true, e_fd, e_nck, e_pkt, e_pkf, e_gdtt, e_gdtf, e_gdft, e_gdff, e_ift, e_iff, e_not, e_ln, e_lnT, e_cp, e_cvi, e_ex20, e_ex21, e_ex30, e_ex31, e_ex32, e_add, e_sub, e_mul, e_quo, e_rem, e_and, e_or, e_xor, e_shl, e_shr, e_eql, e_neq, e_lss, e_leq, e_gtr, e_geq, e_beq, e_bne, e_peq1, e_peq2, e_pne1, e_pne2, e_zeq1, e_zeq2, e_zne1, e_zne2, e_feq1, e_fne1, e_feq2, e_fne2, e_seq, e_sne, e_ta1, e_ta2, Nat.zero_add, Nat.add_zero, Bool.not_true, Bool.not_false]
      refine ld1_r (v := lvv) r4 rfl ?_
      refine hlg.ln ?_
      have bad : ∀ w', Kp Emp w w' → chkLoadL C rs rs[i].cl rs[i].legs = false → K (.bool false) w' := by
        intro w' k' e
        rw [all_false hi (by rw [hlv, e]; rfl)] at hK
        exact hK w' k'
      have hll := hRi.rb.ll
      obtain ⟨c0, c1⟩ := hRi.rn.cl
      have c3 := hRi.cl
      unfold s161_p17
      refine loop_n rs[i].legs.length (fun k l w' => l = [P w.heap.size 0, P t 0, P w3.heap.size 0, rv, I (rs.length : Nat), I (i : Nat), lvv, I (rs[i].legs.length : Nat), I (k : Nat)] ∧ Kp Emp w w' ∧ Row w' w.heap.size 34 (C.cells va vt) ∧ Tr F w' t C rs ∧ Row w' w3.heap.size 85 (rC (rs[i], lvv)) ∧ chkLoadL C rs rs[i].cl rs[i].legs = chkLoadL C rs rs[i].cl (rs[i].legs.drop k)) ⟨rfl, k4, r14, tr4, r4, by simp⟩ ?_ ?_
      · rintro k l w5 hk ⟨rfl, k5, r15, tr5, r45, hch⟩ B2 hB2
        rw [drop_cons hk, chkLoadL] at hch
        rw [s161_p17_Fe]
        unfold s161_p16
        simp only [dlt hk, e_fd, e_nck, e_pkt, e_pkf, e_gdtt, e_gdtf, e_gdft, e_gdff, e_ift, e_iff, e_not, e_ln, e_lnT, e_cp, e_cvi, e_ex20, e_ex21, e_ex30, e_ex31, e_ex32, e_add, e_sub, e_mul, e_quo, e_rem, e_and, e_or, e_xor, e_shl, e_shr, e_eql, e_neq, e_lss, e_leq, e_gtr, e_geq, e_beq, e_bne, e_peq1, e_peq2, e_pne1, e_pne2, e_zeq1, e_zeq2, e_zne1, e_zne2, e_feq1, e_fne1, e_feq2, e_fne2, e_seq, e_sne, e_ta1, e_ta2, Nat.zero_add, Nat.add_zero, Bool.not_true, Bool.not_false]
        unfold s161_p15
        refine each_r rfl (hlg.kp' k5) hk (lC_len _) (lC_sc _) fun w6 r6 hk6 hz6 => ?_
        have k6 := k5.trans hk6
        have r16 := hk6.row' r15
        have r46 := hk6.row' r45
        have tr6 := tr5.kp' hk6
        obtain ⟨⟨a0, a1⟩, s0, s1⟩ := hRi.rn.lg _ (List.getElem_mem hk)
        have hat := hRi.at_ _ (List.getElem_mem hk)
        obtain ⟨_, hs42⟩ := hRi.rb.lg _ (List.getElem_mem hk)
        obtain ⟨n, hn⟩ : ∃ n : Nat, rs[i].legs[k].a = ((n : Nat) : Int) := ⟨rs[i].legs[k].a.toNat, by omega⟩
        have hn2 : n < C.ats.length := by omega
        have eat : attOf C rs[i].legs[k].a = C.ats[n] := by unfold attOf; rw [hn, show ((n : Nat) : Int).toNat = n by omega, List.getElem?_eq_getElem hn2]; rfl
        obtain ⟨_, ⟨d0, d1⟩, _⟩ := cv.at_ _ (List.getElem_mem hn2)
        try simp only [e_fd, e_nck, e_pkt, e_pkf, e_gdtt, e_gdtf, e_gdft, e_gdff, e_ift, e_iff, e_not, e_ln, e_lnT, e_cp, e_cvi, e_ex20, e_ex21, e_ex30, e_ex31, e_ex32, e_add, e_sub, e_mul, e_quo, e_rem, e_and, e_or, e_xor, e_shl, e_shr, e_eql, e_neq, e_lss, e_leq, e_gtr, e_geq, e_beq, e_bne, e_peq1, e_peq2, e_pne1, e_pne2, e_zeq1, e_zeq2, e_zne1, e_zne2, e_feq1, e_fne1, e_feq2, e_fne2, e_seq, e_sne, e_ta1, e_ta2, Nat.zero_add, Nat.add_zero, Bool.not_true, Bool.not_false]
        refine ld1_r (v := va) r16 rfl ?_
        refine ld1_r r6 rfl ?_
        rw [hn]
        refine each_r rfl ((ha.kp' k6)) hn2 (Att.len _) (Att.sc _) fun w7 r7 hk7 hz7 => ?_
        have k7 := k6.trans hk7
        have r17 := hk7.row' r16
        have r47 := hk7.row' r46
        have r67 := hk7.row' r6
        have tr7 := tr6.kp' hk7
        refine ld1_r r67 rfl ?_
        -- the capacity of each slot of the stay
        have afterCap : ∀ w8, Kp Emp w w8 → Row w8 w.heap.size 34 (C.cells va vt) → Row w8 w3.heap.size 85 (rC (rs[i], lvv)) → Row w8 w5.heap.size 88 (lC rs[i].legs[k]) → Row w8 w6.heap.size 113 C.ats[n].cells → Tr F w8 t C rs → capOk C rs rs[i].legs[k] = true → s161_p9 K B B2 (P w.heap.size 0) (P t 0) (P w3.heap.size 0) (I (k : Nat)) (P w5.heap.size 0) (P w6.heap.size 0) rv (I (rs.length : Nat)) (I (i : Nat)) lvv (I (rs[i].legs.length : Nat)) (I (k : Nat)) w8 := by
          intro w8 k8 r18 r48 r68 r78 tr8 hcap
          rw [hcap, Bool.true_and, eat] at hch
          unfold s161_p9 s161_p9_d
          have kd : Kp Emp w8 (drw w8) := kp_drw
          generalize drw w8 = w9 at kd ⊢
          have k9 := k8.trans kd
          try simp only [e_fd, e_nck, e_pkt, e_pkf, e_gdtt, e_gdtf, e_gdft, e_gdff, e_ift, e_iff, e_not, e_ln, e_lnT, e_cp, e_cvi, e_ex20, e_ex21, e_ex30, e_ex31, e_ex32, e_add, e_sub, e_mul, e_quo, e_rem, e_and, e_or, e_xor, e_shl, e_shr, e_eql, e_neq, e_lss, e_leq, e_gtr, e_geq, e_beq, e_bne, e_peq1, e_peq2, e_pne1, e_pne2, e_zeq1, e_zeq2, e_zne1, e_zne2, e_feq1, e_fne1, e_feq2, e_fne2, e_seq, e_sne, e_ta1, e_ta2, Nat.zero_add, Nat.add_zero, Bool.not_true, Bool.not_false]
          refine ld1_r (kd.row' r68) rfl ?_
          try simp only [e_fd, e_nck, e_pkt, e_pkf, e_gdtt, e_gdtf, e_gdft, e_gdff, e_ift, e_iff, e_not, e_ln, e_lnT, e_cp, e_cvi, e_ex20, e_ex21, e_ex30, e_ex31, e_ex32, e_add, e_sub, e_mul, e_quo, e_rem, e_and, e_or, e_xor, e_shl, e_shr, e_eql, e_neq, e_lss, e_leq, e_gtr, e_geq, e_beq, e_bne, e_peq1, e_peq2, e_pne1, e_pne2, e_zeq1, e_zeq2, e_zne1, e_zne2, e_feq1, e_fne1, e_feq2, e_fne2, e_seq, e_sne, e_ta1, e_ta2, Nat.zero_add, Nat.add_zero, Bool.not_true, Bool.not_false]
          refine ld1_r (kd.row' r68) rfl ?_
          try simp only [e_fd, e_nck, e_pkt, e_pkf, e_gdtt, e_gdtf, e_gdft, e_gdff, e_ift, e_iff, e_not, e_ln, e_lnT, e_cp, e_cvi, e_ex20, e_ex21, e_ex30, e_ex31, e_ex32, e_add, e_sub, e_mul, e_quo, e_rem, e_and, e_or, e_xor, e_shl, e_shr, e_eql, e_neq, e_lss, e_leq, e_gtr, e_geq, e_beq, e_bne, e_peq1, e_peq2, e_pne1, e_pne2, e_zeq1, e_zeq2, e_zne1, e_zne2, e_feq1, e_fne1, e_feq2, e_fne2, e_seq, e_sne, e_ta1, e_ta2, Nat.zero_add, Nat.add_zero, Bool.not_true, Bool.not_false]
          refine ld1_r (kd.row' r48) rfl ?_
          try simp only [e_fd, e_nck, e_pkt, e_pkf, e_gdtt, e_gdtf, e_gdft, e_gdff, e_ift, e_iff, e_not, e_ln, e_lnT, e_cp, e_cvi, e_ex20, e_ex21, e_ex30, e_ex31, e_ex32, e_add, e_sub, e_mul, e_quo, e_rem, e_and, e_or, e_xor, e_shl, e_shr, e_eql, e_neq, e_lss, e_leq, e_gtr, e_geq, e_beq, e_bne, e_peq1, e_peq2, e_pne1, e_pne2, e_zeq1, e_zeq2, e_zne1, e_zne2, e_feq1, e_fne1, e_feq2, e_fne2, e_seq, e_sne, e_ta1, e_ta2, Nat.zero_add, Nat.add_zero, Bool.not_true, Bool.not_false]
          refine ld1_r (kd.row' r48) rfl ?_
          try simp only [e_fd, e_nck, e_pkt, e_pkf, e_gdtt, e_gdtf, e_gdft, e_gdff, e_ift, e_iff, e_not, e_ln, e_lnT, e_cp, e_cvi, e_ex20, e_ex21, e_ex30, e_ex31, e_ex32, e_add, e_sub, e_mul, e_quo, e_rem, e_and, e_or, e_xor, e_shl, e_shr, e_eql, e_neq, e_lss, e_leq, e_gtr, e_geq, e_beq, e_bne, e_peq1, e_peq2, e_pne1, e_pne2, e_zeq1, e_zeq2, e_zne1, e_zne2, e_feq1, e_fne1, e_feq2, e_fne2, e_seq, e_sne, e_ta1, e_ta2, Nat.zero_add, Nat.add_zero, Bool.not_true, Bool.not_false]
          refine ⟨⟨by show 0 ≤ rs[i].cl; omega, by show rs[i].cl < 3; omega⟩, ?_⟩
          have eq : C.ats[n].cells[2 + rs[i].cl.toNat * 1]? = some (I (attQ C.ats[n] rs[i].cl)) := by
            unfold attQ
            rcases (by omega : rs[i].cl = 0 ∨ rs[i].cl = 1 ∨ rs[i].cl = 2) with q | q | q <;> rw [q] <;> rfl
          rw [add_mk]
          refine ld1_r (kd.row' r78) eq ?_
          refine ent_ok (tr8.kp' kd) hB fun w10 hk10 => ⟨hk10.below', ?_⟩
          have k10 := k9.trans hk10
          have kk := kd.trans hk10
          try simp only [e_fd, e_nck, e_pkt, e_pkf, e_gdtt, e_gdtf, e_gdft, e_gdff, e_ift, e_iff, e_not, e_ln, e_lnT, e_cp, e_cvi, e_ex20, e_ex21, e_ex30, e_ex31, e_ex32, e_add, e_sub, e_mul, e_quo, e_rem, e_and, e_or, e_xor, e_shl, e_shr, e_eql, e_neq, e_lss, e_leq, e_gtr, e_geq, e_beq, e_bne, e_peq1, e_peq2, e_pne1, e_pne2, e_zeq1, e_zeq2, e_zne1, e_zne2, e_feq1, e_fne1, e_feq2, e_fne2, e_seq, e_sne, e_ta1, e_ta2, Nat.zero_add, Nat.add_zero, Bool.not_true, Bool.not_false]
          unfold s161_p8
          by_cases q1 : entered rs rs[i].legs[k].a rs[i].legs[k].s rs[i].cl 0 ≤ attQ C.ats[n] rs[i].cl
          · have e1 : ¬ attQ C.ats[n] rs[i].cl < entered rs rs[i].legs[k].a rs[i].legs[k].s rs[i].cl 0 := by omega
            rw [decide_eq_true q1, Bool.true_and] at hch
            simp only [e1, decide_false, e_fd, e_nck, e_pkt, e_pkf, e_gdtt, e_gdtf, e_gdft, e_gdff, e_ift, e_iff, e_not, e_ln, e_lnT, e_cp, e_cvi, e_ex20, e_ex21, e_ex30, e_ex31, e_ex32, e_add, e_sub, e_mul, e_quo, e_rem, e_and, e_or, e_xor, e_shl, e_shr, e_eql, e_neq, e_lss, e_leq, e_gtr, e_geq, e_beq, e_bne, e_peq1, e_peq2, e_pne1, e_pne2, e_zeq1, e_zeq2, e_zne1, e_zne2, e_feq1, e_fne1, e_feq2, e_fne2, e_seq, e_sne, e_ta1, e_ta2, Nat.zero_add, Nat.add_zero, Bool.not_true, Bool.not_false]
            rw [inc k (by omega)]
            refine ld1_r (v := lvv) (kk.row' r48) rfl ?_
            refine hlg.ln ?_
            try simp only [e_fd, e_nck, e_pkt, e_pkf, e_gdtt, e_gdtf, e_gdft, e_gdff, e_ift, e_iff, e_not, e_ln, e_lnT, e_cp, e_cvi, e_ex20, e_ex21, e_ex30, e_ex31, e_ex32, e_add, e_sub, e_mul, e_quo, e_rem, e_and, e_or, e_xor, e_shl, e_shr, e_eql, e_neq, e_lss, e_leq, e_gtr, e_geq, e_beq, e_bne, e_peq1, e_peq2, e_pne1, e_pne2, e_zeq1, e_zeq2, e_zne1, e_zne2, e_feq1, e_fne1, e_feq2, e_fne2, e_seq, e_sne, e_ta1, e_ta2, Nat.zero_add, Nat.add_zero, Bool.not_true, Bool.not_false]
            unfold s161_p7
            have back : ∀ w11, Kp Emp w w11 → Row w11 w.heap.size 34 (C.cells va vt) → Row w11 w3.heap.size 85 (rC (rs[i], lvv)) → Tr F w11 t C rs → nextOk C rs[i].legs[k] (rs[i].legs.drop (k + 1)) = true → s161_p3 K B B2 (P w.heap.size 0) (P t 0) (P w3.heap.size 0) rv (I (rs.length : Nat)) (I (i : Nat)) lvv (I (rs[i].legs.length : Nat)) (I (k : Nat)) w11 := by
              intro w11 k11 r11 r411 tr11 hnx
              rw [hnx, Bool.true_and] at hch
              unfold s161_p3
              try simp only [e_fd, e_nck, e_pkt, e_pkf, e_gdtt, e_gdtf, e_gdft, e_gdff, e_ift, e_iff, e_not, e_ln, e_lnT, e_cp, e_cvi, e_ex20, e_ex21, e_ex30, e_ex31, e_ex32, e_add, e_sub, e_mul, e_quo, e_rem, e_and, e_or, e_xor, e_shl, e_shr, e_eql, e_neq, e_lss, e_leq, e_gtr, e_geq, e_beq, e_bne, e_peq1, e_peq2, e_pne1, e_pne2, e_zeq1, e_zeq2, e_zne1, e_zne2, e_feq1, e_fne1, e_feq2, e_fne2, e_seq, e_sne, e_ta1, e_ta2, Nat.zero_add, Nat.add_zero, Bool.not_true, Bool.not_false]
              rw [inc k (by omega)]
              exact hB2 _ _ ⟨rfl, k11, r11, tr11, r411, hch⟩
            by_cases q2 : k + 1 < rs[i].legs.length
            · simp only [dlt q2, e_fd, e_nck, e_pkt, e_pkf, e_gdtt, e_gdtf, e_gdft, e_gdff, e_ift, e_iff, e_not, e_ln, e_lnT, e_cp, e_cvi, e_ex20, e_ex21, e_ex30, e_ex31, e_ex32, e_add, e_sub, e_mul, e_quo, e_rem, e_and, e_or, e_xor, e_shl, e_shr, e_eql, e_neq, e_lss, e_leq, e_gtr, e_geq, e_beq, e_bne, e_peq1, e_peq2, e_pne1, e_pne2, e_zeq1, e_zeq2, e_zne1, e_zne2, e_feq1, e_fne1, e_feq2, e_fne2, e_seq, e_sne, e_ta1, e_ta2, Nat.zero_add, Nat.add_zero, Bool.not_true, Bool.not_false]
              unfold s161_p6
              try simp only [e_fd, e_nck, e_pkt, e_pkf, e_gdtt, e_gdtf, e_gdft, e_gdff, e_ift, e_iff, e_not, e_ln, e_lnT, e_cp, e_cvi, e_ex20, e_ex21, e_ex30, e_ex31, e_ex32, e_add, e_sub, e_mul, e_quo, e_rem, e_and, e_or, e_xor, e_shl, e_shr, e_eql, e_neq, e_lss, e_leq, e_gtr, e_geq, e_beq, e_bne, e_peq1, e_peq2, e_pne1, e_pne2, e_zeq1, e_zeq2, e_zne1, e_zne2, e_feq1, e_fne1, e_feq2, e_fne2, e_seq, e_sne, e_ta1, e_ta2, Nat.zero_add, Nat.add_zero, Bool.not_true, Bool.not_false]
              refine ld1_r (v := lvv) (kk.row' r48) rfl ?_
              rw [inc k (by omega)]
              have kk10 : Kp Emp w w10 := k10
              refine each_r rfl (hlg.kp' kk10) q2 (lC_len _) (lC_sc _) fun w11 r11 hk11 hz11 => ?_
              have kk2 := kk.trans hk11
              have k11 := k10.trans hk11
              obtain ⟨⟨b0, b1⟩, t0, t1⟩ := hRi.rn.lg _ (List.getElem_mem q2)
              have hbt := hRi.at_ _ (List.getElem_mem q2)
              obtain ⟨m, hm⟩ : ∃ m : Nat, rs[i].legs[k + 1].a = ((m : Nat) : Int) := ⟨rs[i].legs[k + 1].a.toNat, by omega⟩
              have hm2 : m < C.ats.length := by omega
              have hnt : n < tvs.length := by have := cv.tl; omega
              have hnt2 : n < C.tr.length := by omega
              have hrow := ht3 n hnt hnt2
              obtain ⟨hrl1, hrl2⟩ := cv.tr _ (List.getElem_mem hnt2)
              have hm3 : m < C.tr[n].length := by omega
              have etr : trOf C rs[i].legs[k].a rs[i].legs[k + 1].a = C.tr[n][m] := by
                unfold trOf
                rw [hn, hm, show ((n : Nat) : Int).toNat = n by omega, show ((m : Nat) : Int).toNat = m by omega, List.getElem?_eq_getElem hnt2, Option.getD_some, List.getElem?_eq_getElem hm3]; rfl
              obtain ⟨v0, v1⟩ := hrl2 _ (List.getElem_mem hm3)
              have enx : nextOk C rs[i].legs[k] (rs[i].legs.drop (k + 1)) = decide (rs[i].legs[k].s + C.ats[n].dw + C.tr[n][m] ≤ rs[i].legs[k + 1].s) := by
                rw [drop_cons q2, nextOk, eat, etr]
              unfold s161_p5 s161_p5_d
              have kd2 : Kp Emp w11 (drw w11) := kp_drw
              generalize drw w11 = w12 at kd2 ⊢
              have kk3 := kk2.trans kd2
              have k12 := k11.trans kd2
              try simp only [e_fd, e_nck, e_pkt, e_pkf, e_gdtt, e_gdtf, e_gdft, e_gdff, e_ift, e_iff, e_not, e_ln, e_lnT, e_cp, e_cvi, e_ex20, e_ex21, e_ex30, e_ex31, e_ex32, e_add, e_sub, e_mul, e_quo, e_rem, e_and, e_or, e_xor, e_shl, e_shr, e_eql, e_neq, e_lss, e_leq, e_gtr, e_geq, e_beq, e_bne, e_peq1, e_peq2, e_pne1, e_pne2, e_zeq1, e_zeq2, e_zne1, e_zne2, e_feq1, e_fne1, e_feq2, e_fne2, e_seq, e_sne, e_ta1, e_ta2, Nat.zero_add, Nat.add_zero, Bool.not_true, Bool.not_false]
              refine ld1_r (kd2.row' r11) rfl ?_
              try simp only [e_fd, e_nck, e_pkt, e_pkf, e_gdtt, e_gdtf, e_gdft, e_gdff, e_ift, e_iff, e_not, e_ln, e_lnT, e_cp, e_cvi, e_ex20, e_ex21, e_ex30, e_ex31, e_ex32, e_add, e_sub, e_mul, e_quo, e_rem, e_and, e_or, e_xor, e_shl, e_shr, e_eql, e_neq, e_lss, e_leq, e_gtr, e_geq, e_beq, e_bne, e_peq1, e_peq2, e_pne1, e_pne2, e_zeq1, e_zeq2, e_zne1, e_zne2, e_feq1, e_fne1, e_feq2, e_fne2, e_seq, e_sne, e_ta1, e_ta2, Nat.zero_add, Nat.add_zero, Bool.not_true, Bool.not_false]
              refine ld1_r (kk3.row' r68) rfl ?_
              try simp only [e_fd, e_nck, e_pkt, e_pkf, e_gdtt, e_gdtf, e_gdft, e_gdff, e_ift, e_iff, e_not, e_ln, e_lnT, e_cp, e_cvi, e_ex20, e_ex21, e_ex30, e_ex31, e_ex32, e_add, e_sub, e_mul, e_quo, e_rem, e_and, e_or, e_xor, e_shl, e_shr, e_eql, e_neq, e_lss, e_leq, e_gtr, e_geq, e_beq, e_bne, e_peq1, e_peq2, e_pne1, e_pne2, e_zeq1, e_zeq2, e_zne1, e_zne2, e_feq1, e_fne1, e_feq2, e_fne2, e_seq, e_sne, e_ta1, e_ta2, Nat.zero_add, Nat.add_zero, Bool.not_true, Bool.not_false]
              refine ld1_r (kk3.row' r78) rfl ?_
              try simp only [e_fd, e_nck, e_pkt, e_pkf, e_gdtt, e_gdtf, e_gdft, e_gdff, e_ift, e_iff, e_not, e_ln, e_lnT, e_cp, e_cvi, e_ex20, e_ex21, e_ex30, e_ex31, e_ex32, e_add, e_sub, e_mul, e_quo, e_rem, e_and, e_or, e_xor, e_shl, e_shr, e_eql, e_neq, e_lss, e_leq, e_gtr, e_geq, e_beq, e_bne, e_peq1, e_peq2, e_pne1, e_pne2, e_zeq1, e_zeq2, e_zne1, e_zne2, e_feq1, e_fne1, e_feq2, e_fne2, e_seq, e_sne, e_ta1, e_ta2, Nat.zero_add, Nat.add_zero, Bool.not_true, Bool.not_false]
              refine ld1_r (v := vt) (kk3.row' r18) rfl ?_
              try simp only [e_fd, e_nck, e_pkt, e_pkf, e_gdtt, e_gdtf, e_gdft, e_gdff, e_ift, e_iff, e_not, e_ln, e_lnT, e_cp, e_cvi, e_ex20, e_ex21, e_ex30, e_ex31, e_ex32, e_add, e_sub, e_mul, e_quo, e_rem, e_and, e_or, e_xor, e_shl, e_shr, e_eql, e_neq, e_lss, e_leq, e_gtr, e_geq, e_beq, e_bne, e_peq1, e_peq2, e_pne1, e_pne2, e_zeq1, e_zeq2, e_zne1, e_zne2, e_feq1, e_fne1, e_feq2, e_fne2, e_seq, e_sne, e_ta1, e_ta2, Nat.zero_add, Nat.add_zero, Bool.not_true, Bool.not_false]
              refine ld1_r (kk3.row' r68) rfl ?_
              rw [hn]
              refine ((ht1.kp' k12).ix hnt fun b o _ hcc => ?_)
              refine hcc.ld0 rfl ?_
              try simp only [e_fd, e_nck, e_pkt, e_pkf, e_gdtt, e_gdtf, e_gdft, e_gdff, e_ift, e_iff, e_not, e_ln, e_lnT, e_cp, e_cvi, e_ex20, e_ex21, e_ex30, e_ex31, e_ex32, e_add, e_sub, e_mul, e_quo, e_rem, e_and, e_or, e_xor, e_shl, e_shr, e_eql, e_neq, e_lss, e_leq, e_gtr, e_geq, e_beq, e_bne, e_peq1, e_peq2, e_pne1, e_pne2, e_zeq1, e_zeq2, e_zne1, e_zne2, e_feq1, e_fne1, e_feq2, e_fne2, e_seq, e_sne, e_ta1, e_ta2, Nat.zero_add, Nat.add_zero, Bool.not_true, Bool.not_false]
              refine ld1_r (kd2.row' r11) rfl ?_
              rw [hm]
              refine ((hrow.kp' k12).ix hm3 fun b o _ hcc => ?_)
              refine hcc.ld0 rfl ?_
              try simp only [e_fd, e_nck, e_pkt, e_pkf, e_gdtt, e_gdtf, e_gdft, e_gdff, e_ift, e_iff, e_not, e_ln, e_lnT, e_cp, e_cvi, e_ex20, e_ex21, e_ex30, e_ex31, e_ex32, e_add, e_sub, e_mul, e_quo, e_rem, e_and, e_or, e_xor, e_shl, e_shr, e_eql, e_neq, e_lss, e_leq, e_gtr, e_geq, e_beq, e_bne, e_peq1, e_peq2, e_pne1, e_pne2, e_zeq1, e_zeq2, e_zne1, e_zne2, e_feq1, e_fne1, e_feq2, e_fne2, e_seq, e_sne, e_ta1, e_ta2, Nat.zero_add, Nat.add_zero, Bool.not_true, Bool.not_false]
              rw [wrap64_id (n := rs[i].legs[k].s + C.ats[n].dw) (by omega) (by omega), wrap64_id (by omega) (by omega)]
              unfold s161_p4
              by_cases q3 : rs[i].legs[k].s + C.ats[n].dw + C.tr[n][m] ≤ rs[i].legs[k + 1].s
              · have e3 : ¬ rs[i].legs[k + 1].s < rs[i].legs[k].s + C.ats[n].dw + C.tr[n][m] := by omega
                simp only [e3, decide_false, e_fd, e_nck, e_pkt, e_pkf, e_gdtt, e_gdtf, e_gdft, e_gdff, e_ift, e_iff, e_not, e_ln, e_lnT, e_cp, e_cvi, e_ex20, e_ex21, e_ex30, e_ex31, e_ex32, e_add, e_sub, e_mul, e_quo, e_rem, e_and, e_or, e_xor, e_shl, e_shr, e_eql, e_neq, e_lss, e_leq, e_gtr, e_geq, e_beq, e_bne, e_peq1, e_peq2, e_pne1, e_pne2, e_zeq1, e_zeq2, e_zne1, e_zne2, e_feq1, e_fne1, e_feq2, e_fne2, e_seq, e_sne, e_ta1, e_ta2, Nat.zero_add, Nat.add_zero, Bool.not_true, Bool.not_false]
                exact back w12 k12 (kk3.row' r18) (kk3.row' r48) (tr8.kp' kk3) (by rw [enx, decide_eq_true q3])
              · have e3 : rs[i].legs[k + 1].s < rs[i].legs[k].s + C.ats[n].dw + C.tr[n][m] := by omega
                simp only [e3, decide_true, e_fd, e_nck, e_pkt, e_pkf, e_gdtt, e_gdtf, e_gdft, e_gdff, e_ift, e_iff, e_not, e_ln, e_lnT, e_cp, e_cvi, e_ex20, e_ex21, e_ex30, e_ex31, e_ex32, e_add, e_sub, e_mul, e_quo, e_rem, e_and, e_or, e_xor, e_shl, e_shr, e_eql, e_neq, e_lss, e_leq, e_gtr, e_geq, e_beq, e_bne, e_peq1, e_peq2, e_pne1, e_pne2, e_zeq1, e_zeq2, e_zne1, e_zne2, e_feq1, e_fne1, e_feq2, e_fne2, e_seq, e_sne, e_ta1, e_ta2, Nat.zero_add, Nat.add_zero, Bool.not_true, Bool.not_false]
                refine bad w12 k12 ?_
                rw [hch, enx, decide_eq_false q3]; rfl
            · have e2 : ¬ ((k + 1 : Nat) : Int) < ((rs[i].legs.length : Nat) : Int) := by omega
              simp only [e2, decide_false, e_fd, e_nck, e_pkt, e_pkf, e_gdtt, e_gdtf, e_gdft, e_gdff, e_ift, e_iff, e_not, e_ln, e_lnT, e_cp, e_cvi, e_ex20, e_ex21, e_ex30, e_ex31, e_ex32, e_add, e_sub, e_mul, e_quo, e_rem, e_and, e_or, e_xor, e_shl, e_shr, e_eql, e_neq, e_lss, e_leq, e_gtr, e_geq, e_beq, e_bne, e_peq1, e_peq2, e_pne1, e_pne2, e_zeq1, e_zeq2, e_zne1, e_zne2, e_feq1, e_fne1, e_feq2, e_fne2, e_seq, e_sne, e_ta1, e_ta2, Nat.zero_add, Nat.add_zero, Bool.not_true, Bool.not_false]
              refine back w10 k10 (kk.row' r18) (kk.row' r48) (tr8.kp' kk) ?_
              rw [List.drop_of_length_le (by omega)]; rfl
          · have e1 : attQ C.ats[n] rs[i].cl < entered rs rs[i].legs[k].a rs[i].legs[k].s rs[i].cl 0 := by omega
            simp only [e1, decide_true, e_fd, e_nck, e_pkt, e_pkf, e_gdtt, e_gdtf, e_gdft, e_gdff, e_ift, e_iff, e_not, e_ln, e_lnT, e_cp, e_cvi, e_ex20, e_ex21, e_ex30, e_ex31, e_ex32, e_add, e_sub, e_mul, e_quo, e_rem, e_and, e_or, e_xor, e_shl, e_shr, e_eql, e_neq, e_lss, e_leq, e_gtr, e_geq, e_beq, e_bne, e_peq1, e_peq2, e_pne1, e_pne2, e_zeq1, e_zeq2, e_zne1, e_zne2, e_feq1, e_fne1, e_feq2, e_fne2, e_seq, e_sne, e_ta1, e_ta2, Nat.zero_add, Nat.add_zero, Bool.not_true, Bool.not_false]
            refine bad w10 k10 ?_
            rw [hch, decide_eq_false q1]; rfl
        unfold s161_p14
        have edw : (attOf C rs[i].legs[k].a).dw.toNat = C.ats[n].dw.toNat := by rw [eat]
        refine loop_n C.ats[n].dw.toNat (fun j l w' => l = [P w.heap.size 0, P t 0, P w3.heap.size 0, I (k : Nat), P w5.heap.size 0, P w6.heap.size 0, I (rs[i].legs[k].s + ((j : Nat) : Int)), rv, I (rs.length : Nat), I (i : Nat), lvv, I (rs[i].legs.length : Nat), I (k : Nat)] ∧ Kp Emp w7 w' ∧ (List.range j).all (fun k' => decide (inside C rs rs[i].legs[k].a (rs[i].legs[k].s + ((k' : Nat) : Int)) 0 ≤ C.ats[n].cap)) = true) ⟨by simp, Kp.refl _ _, rfl⟩ ?_ ?_
        · rintro j l w8 hj ⟨rfl, kk8, hra⟩ B3 hB3
          rw [s161_p14_Fe]
          unfold s161_p13
          try simp only [e_fd, e_nck, e_pkt, e_pkf, e_gdtt, e_gdtf, e_gdft, e_gdff, e_ift, e_iff, e_not, e_ln, e_lnT, e_cp, e_cvi, e_ex20, e_ex21, e_ex30, e_ex31, e_ex32, e_add, e_sub, e_mul, e_quo, e_rem, e_and, e_or, e_xor, e_shl, e_shr, e_eql, e_neq, e_lss, e_leq, e_gtr, e_geq, e_beq, e_bne, e_peq1, e_peq2, e_pne1, e_pne2, e_zeq1, e_zeq2, e_zne1, e_zne2, e_feq1, e_fne1, e_feq2, e_fne2, e_seq, e_sne, e_ta1, e_ta2, Nat.zero_add, Nat.add_zero, Bool.not_true, Bool.not_false]
          refine ld1_r (kk8.row' r67) rfl ?_
          try simp only [e_fd, e_nck, e_pkt, e_pkf, e_gdtt, e_gdtf, e_gdft, e_gdff, e_ift, e_iff, e_not, e_ln, e_lnT, e_cp, e_cvi, e_ex20, e_ex21, e_ex30, e_ex31, e_ex32, e_add, e_sub, e_mul, e_quo, e_rem, e_and, e_or, e_xor, e_shl, e_shr, e_eql, e_neq, e_lss, e_leq, e_gtr, e_geq, e_beq, e_bne, e_peq1, e_peq2, e_pne1, e_pne2, e_zeq1, e_zeq2, e_zne1, e_zne2, e_feq1, e_fne1, e_feq2, e_fne2, e_seq, e_sne, e_ta1, e_ta2, Nat.zero_add, Nat.add_zero, Bool.not_true, Bool.not_false]
          refine ld1_r (kk8.row' r7) rfl ?_
          try simp only [e_fd, e_nck, e_pkt, e_pkf, e_gdtt, e_gdtf, e_gdft, e_gdff, e_ift, e_iff, e_not, e_ln, e_lnT, e_cp, e_cvi, e_ex20, e_ex21, e_ex30, e_ex31, e_ex32, e_add, e_sub, e_mul, e_quo, e_rem, e_and, e_or, e_xor, e_shl, e_shr, e_eql, e_neq, e_lss, e_leq, e_gtr, e_geq, e_beq, e_bne, e_peq1, e_peq2, e_pne1, e_pne2, e_zeq1, e_zeq2, e_zne1, e_zne2, e_feq1, e_fne1, e_feq2, e_fne2, e_seq, e_sne, e_ta1, e_ta2, Nat.zero_add, Nat.add_zero, Bool.not_true, Bool.not_false]
          rw [wrap64_id (n := rs[i].legs[k].s + C.ats[n].dw) (by omega) (by omega)]
          have e1 : rs[i].legs[k].s + ((j : Nat) : Int) < rs[i].legs[k].s + C.ats[n].dw := by omega
          simp only [e1, decide_true, e_fd, e_nck, e_pkt, e_pkf, e_gdtt, e_gdtf, e_gdft, e_gdff, e_ift, e_iff, e_not, e_ln, e_lnT, e_cp, e_cvi, e_ex20, e_ex21, e_ex30, e_ex31, e_ex32, e_add, e_sub, e_mul, e_quo, e_rem, e_and, e_or, e_xor, e_shl, e_shr, e_eql, e_neq, e_lss, e_leq, e_gtr, e_geq, e_beq, e_bne, e_peq1, e_peq2, e_pne1, e_pne2, e_zeq1, e_zeq2, e_zne1, e_zne2, e_feq1, e_fne1, e_feq2, e_fne2, e_seq, e_sne, e_ta1, e_ta2, Nat.zero_add, Nat.add_zero, Bool.not_true, Bool.not_false]
          unfold s161_p12 s161_p12_d
          have kd : Kp Emp w8 (drw w8) := kp_drw
          generalize drw w8 = w9 at kd ⊢
          have kk9 := kk8.trans kd
          try simp only [e_fd, e_nck, e_pkt, e_pkf, e_gdtt, e_gdtf, e_gdft, e_gdff, e_ift, e_iff, e_not, e_ln, e_lnT, e_cp, e_cvi, e_ex20, e_ex21, e_ex30, e_ex31, e_ex32, e_add, e_sub, e_mul, e_quo, e_rem, e_and, e_or, e_xor, e_shl, e_shr, e_eql, e_neq, e_lss, e_leq, e_gtr, e_geq, e_beq, e_bne, e_peq1, e_peq2, e_pne1, e_pne2, e_zeq1, e_zeq2, e_zne1, e_zne2, e_feq1, e_fne1, e_feq2, e_fne2, e_seq, e_sne, e_ta1, e_ta2, Nat.zero_add, Nat.add_zero, Bool.not_true, Bool.not_false]
          refine ld1_r (kk9.row' r67) rfl ?_
          try simp only [e_fd, e_nck, e_pkt, e_pkf, e_gdtt, e_gdtf, e_gdft, e_gdff, e_ift, e_iff, e_not, e_ln, e_lnT, e_cp, e_cvi, e_ex20, e_ex21, e_ex30, e_ex31, e_ex32, e_add, e_sub, e_mul, e_quo, e_rem, e_and, e_or, e_xor, e_shl, e_shr, e_eql, e_neq, e_lss, e_leq, e_gtr, e_geq, e_beq, e_bne, e_peq1, e_peq2, e_pne1, e_pne2, e_zeq1, e_zeq2, e_zne1, e_zne2, e_feq1, e_fne1, e_feq2, e_fne2, e_seq, e_sne, e_ta1, e_ta2, Nat.zero_add, Nat.add_zero, Bool.not_true, Bool.not_false]
          refine ld1_r (kk9.row' r7) rfl ?_
          rw [hn]
          refine occ_ok hn2 cv.dw (tr7.kp' kk9) hB fun w10 hk10 => ⟨hk10.below', ?_⟩
          have kk10 := kk9.trans hk10
          try simp only [e_fd, e_nck, e_pkt, e_pkf, e_gdtt, e_gdtf, e_gdft, e_gdff, e_ift, e_iff, e_not, e_ln, e_lnT, e_cp, e_cvi, e_ex20, e_ex21, e_ex30, e_ex31, e_ex32, e_add, e_sub, e_mul, e_quo, e_rem, e_and, e_or, e_xor, e_shl, e_shr, e_eql, e_neq, e_lss, e_leq, e_gtr, e_geq, e_beq, e_bne, e_peq1, e_peq2, e_pne1, e_pne2, e_zeq1, e_zeq2, e_zne1, e_zne2, e_feq1, e_fne1, e_feq2, e_fne2, e_seq, e_sne, e_ta1, e_ta2, Nat.zero_add, Nat.add_zero, Bool.not_true, Bool.not_false]
          unfold s161_p11
          by_cases q1 : inside C rs ((n : Nat) : Int) (rs[i].legs[k].s + ((j : Nat) : Int)) 0 ≤ C.ats[n].cap
          · have e2 : ¬ C.ats[n].cap < inside C rs ((n : Nat) : Int) (rs[i].legs[k].s + ((j : Nat) : Int)) 0 := by omega
            simp only [e2, decide_false, e_fd, e_nck, e_pkt, e_pkf, e_gdtt, e_gdtf, e_gdft, e_gdff, e_ift, e_iff, e_not, e_ln, e_lnT, e_cp, e_cvi, e_ex20, e_ex21, e_ex30, e_ex31, e_ex32, e_add, e_sub, e_mul, e_quo, e_rem, e_and, e_or, e_xor, e_shl, e_shr, e_eql, e_neq, e_lss, e_leq, e_gtr, e_geq, e_beq, e_bne, e_peq1, e_peq2, e_pne1, e_pne2, e_zeq1, e_zeq2, e_zne1, e_zne2, e_feq1, e_fne1, e_feq2, e_fne2, e_seq, e_sne, e_ta1, e_ta2, Nat.zero_add, Nat.add_zero, Bool.not_true, Bool.not_false]
            unfold s161_p10
            try simp only [e_fd, e_nck, e_pkt, e_pkf, e_gdtt, e_gdtf, e_gdft, e_gdff, e_ift, e_iff, e_not, e_ln, e_lnT, e_cp, e_cvi, e_ex20, e_ex21, e_ex30, e_ex31, e_ex32, e_add, e_sub, e_mul, e_quo, e_rem, e_and, e_or, e_xor, e_shl, e_shr, e_eql, e_neq, e_lss, e_leq, e_gtr, e_geq, e_beq, e_bne, e_peq1, e_peq2, e_pne1, e_pne2, e_zeq1, e_zeq2, e_zne1, e_zne2, e_feq1, e_fne1, e_feq2, e_fne2, e_seq, e_sne, e_ta1, e_ta2, Nat.zero_add, Nat.add_zero, Bool.not_true, Bool.not_false]
            rw [wrap64_id (by omega) (by omega)]
            refine hB3 _ _ ⟨by rw [show rs[i].legs[k].s + ((j : Nat) : Int) + 1 = rs[i].legs[k].s + ((j + 1 : Nat) : Int) by omega], kk10, ?_⟩
            rw [range_all hj hra, hn, decide_eq_true q1]
          · have e2 : C.ats[n].cap < inside C rs ((n : Nat) : Int) (rs[i].legs[k].s + ((j : Nat) : Int)) 0 := by omega
            simp only [e2, decide_true, e_fd, e_nck, e_pkt, e_pkf, e_gdtt, e_gdtf, e_gdft, e_gdff, e_ift, e_iff, e_not, e_ln, e_lnT, e_cp, e_cvi, e_ex20, e_ex21, e_ex30, e_ex31, e_ex32, e_add, e_sub, e_mul, e_quo, e_rem, e_and, e_or, e_xor, e_shl, e_shr, e_eql, e_neq, e_lss, e_leq, e_gtr, e_geq, e_beq, e_bne, e_peq1, e_peq2, e_pne1, e_pne2, e_zeq1, e_zeq2, e_zne1, e_zne2, e_feq1, e_fne1, e_feq2, e_fne2, e_seq, e_sne, e_ta1, e_ta2, Nat.zero_add, Nat.add_zero, Bool.not_true, Bool.not_false]
            refine bad w10 (k7.trans kk10) ?_
            have hcf : capOk C rs rs[i].legs[k] = false := by
              unfold capOk
              rw [edw]
              refine range_bad hj ?_
              rw [eat, hn, decide_eq_false q1]
            rw [hch, hcf]; rfl
        · rintro l w8 ⟨rfl, kk8, hra⟩ B3
          rw [s161_p14_Fe]
          unfold s161_p13
          try simp only [e_fd, e_nck, e_pkt, e_pkf, e_gdtt, e_gdtf, e_gdft, e_gdff, e_ift, e_iff, e_not, e_ln, e_lnT, e_cp, e_cvi, e_ex20, e_ex21, e_ex30, e_ex31, e_ex32, e_add, e_sub, e_mul, e_quo, e_rem, e_and, e_or, e_xor, e_shl, e_shr, e_eql, e_neq, e_lss, e_leq, e_gtr, e_geq, e_beq, e_bne, e_peq1, e_peq2, e_pne1, e_pne2, e_zeq1, e_zeq2, e_zne1, e_zne2, e_feq1, e_fne1, e_feq2, e_fne2, e_seq, e_sne, e_ta1, e_ta2, Nat.zero_add, Nat.add_zero, Bool.not_true, Bool.not_false]
          refine ld1_r (kk8.row' r67) rfl ?_
          try simp only [e_fd, e_nck, e_pkt, e_pkf, e_gdtt, e_gdtf, e_gdft, e_gdff, e_ift, e_iff, e_not, e_ln, e_lnT, e_cp, e_cvi, e_ex20, e_ex21, e_ex30, e_ex31, e_ex32, e_add, e_sub, e_mul, e_quo, e_rem, e_and, e_or, e_xor, e_shl, e_shr, e_eql, e_neq, e_lss, e_leq, e_gtr, e_geq, e_beq, e_bne, e_peq1, e_peq2, e_pne1, e_pne2, e_zeq1, e_zeq2, e_zne1, e_zne2, e_feq1, e_fne1, e_feq2, e_fne2, e_seq, e_sne, e_ta1, e_ta2, Nat.zero_add, Nat.add_zero, Bool.not_true, Bool.not_false]
          refine ld1_r (kk8.row' r7) rfl ?_
          try simp only [e_fd, e_nck, e_pkt, e_pkf, e_gdtt, e_gdtf, e_gdft, e_gdff, e_ift, e_iff, e_not, e_ln, e_lnT, e_cp, e_cvi, e_ex20, e_ex21, e_ex30, e_ex31, e_ex32, e_add, e_sub, e_mul, e_quo, e_rem, e_and, e_or, e_xor, e_shl, e_shr, e_eql, e_neq, e_lss, e_leq, e_gtr, e_geq, e_beq, e_bne, e_peq1, e_peq2, e_pne1, e_pne2, e_zeq1, e_zeq2, e_zne1, e_zne2, e_feq1, e_fne1, e_feq2, e_fne2, e_seq, e_sne, e_ta1, e_ta2, Nat.zero_add, Nat.add_zero, Bool.not_true, Bool.not_false]
          rw [wrap64_id (n := rs[i].legs[k].s + C.ats[n].dw) (by omega) (by omega)]
          have e1 : ¬ rs[i].legs[k].s + ((C.ats[n].dw.toNat : Nat) : Int) < rs[i].legs[k].s + C.ats[n].dw := by omega
          simp only [e1, decide_false, e_fd, e_nck, e_pkt, e_pkf, e_gdtt, e_gdtf, e_gdft, e_gdff, e_ift, e_iff, e_not, e_ln, e_lnT, e_cp, e_cvi, e_ex20, e_ex21, e_ex30, e_ex31, e_ex32, e_add, e_sub, e_mul, e_quo, e_rem, e_and, e_or, e_xor, e_shl, e_shr, e_eql, e_neq, e_lss, e_leq, e_gtr, e_geq, e_beq, e_bne, e_peq1, e_peq2, e_pne1, e_pne2, e_zeq1, e_zeq2, e_zne1, e_zne2, e_feq1, e_fne1, e_feq2, e_fne2, e_seq, e_sne, e_ta1, e_ta2, Nat.zero_add, Nat.add_zero, Bool.not_true, Bool.not_false]
          refine afterCap w8 (k7.trans kk8) (kk8.row' r17) (kk8.row' r47) (kk8.row' r67) (kk8.row' r7) (tr7.kp' kk8) ?_
          unfold capOk
          rw [edw, eat]
          exact hra
      · rintro l w5 ⟨rfl, k5, r15, tr5, r45, hch⟩ B2
        rw [List.drop_length, chkLoadL] at hch
        rw [s161_p17_Fe]
        unfold s161_p16
        simp only [dnlt, e_fd, e_nck, e_pkt, e_pkf, e_gdtt, e_gdtf, e_gdft, e_gdff, e_ift, e_iff, e_not, e_ln, e_lnT, e_cp, e_cvi, e_ex20, e_ex21, e_ex30, e_ex31, e_ex32, e_add, e_sub, e_mul, e_quo, e_rem, e_and, e_or, e_xor, e_shl, e_shr, e_eql, e_neq, e_lss, e_leq, e_gtr, e_geq, e_beq, e_bne, e_peq1, e_peq2, e_pne1, e_pne2, e_zeq1, e_zeq2, e_zne1, e_zne2, e_feq1, e_fne1, e_feq2, e_fne2, e_seq, e_sne, e_ta1, e_ta2, Nat.zero_add, Nat.add_zero, Bool.not_true, Bool.not_false]
        exact nxt w5 k5 r15 tr5 (by rw [hch, Bool.or_true])
  · rintro l w3 ⟨rfl, k3, r13, tr3, hall⟩ B
    rw [s161_p20_Fe]
    unfold s161_p19
    simp only [dnlt, e_fd, e_nck, e_pkt, e_pkf, e_gdtt, e_gdtf, e_gdft, e_gdff, e_ift, e_iff, e_not, e_ln, e_lnT, e_cp, e_cvi, e_ex20, e_ex21, e_ex30, e_ex31, e_ex32, e_add, e_sub, e_mul, e_quo, e_rem, e_and, e_or, e_xor, e_shl, e_shr, e_eql, e_neq, e_lss, e_leq, e_gtr, e_geq, e_beq, e_bne, e_peq1, e_peq2, e_pne1, e_pne2, e_zeq1, e_zeq2, e_zne1, e_zne2, e_feq1, e_fne1, e_feq2, e_fne2, e_seq, e_sne, e_ta1, e_ta2, Nat.zero_add, Nat.add_zero, Bool.not_true, Bool.not_false]
    unfold s161_p1
    rw [List.take_length] at hall
    have := hK w3 k3
    rw [hall] at this
    exact this
end
end Go.Proofs.Qxb6500896aGreat
