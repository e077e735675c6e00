import Derived.Test.Qxb6500896aGreatK80
namespace Go.Proofs.Qxb6500896aGreat
open Go.Sh Go.RowKit
set_option linter.unusedVariables false
set_option linter.unusedSimpArgs false

section
variable {W w w' w1 w2 : World} {V F M M2 : Nat → Prop} {r e j n e2 : Nat} {σ σ2 : Sg} {J J2 : Jr} {K : Value → World → Prop} {v : Value} {lob : Option Nat} {xs : List Op} {m m2 : Me} {C C2 : Cfg}
theorem n20' : ((20 : Int) != 20) = false := rfl
theorem capA : ∀ a ∈ parkA, IntKind.i64.wrap (a.cap + 1) = a.cap + 1 := by decide
/-- the tuned park -/
theorem tuned_part (z : Lz W V w r e (snS σ) (snJ park σ J)) (hi : RgI park σ J) (hK : ∀ w', Kp Emp w w' → K (.bool true) w') {ev : Value} (her : Er w ev 20) : s15_p4 K (P r 0) (.pointer none) ev w := by
  unfold s15_p4
  try simp only [e_fd, e_nck, e_pkt, e_pkf, e_gdtt, e_gdtf, e_gdft, e_gdff, e_ift, e_iff, e_not, e_ln, e_lnT, e_cp, e_cvi, e_ex20, e_ex21, e_ex30, e_ex31, e_ex32, e_add, e_sub, e_mul, e_quo, e_rem, e_and, e_or, e_xor, e_shl, e_shr, e_eql, e_neq, e_lss, e_leq, e_gtr, e_geq, e_beq, e_bne, e_peq1, e_peq2, e_pne1, e_pne2, e_zeq1, e_zeq2, e_zne1, e_zne2, e_feq1, e_fne1, e_feq2, e_fne2, e_seq, e_sne, e_ta1, e_ta2, Nat.zero_add, Nat.add_zero, Bool.not_true, Bool.not_false]
  refine codeOf_ok her ?_
  simp only [n20', e_fd, e_nck, e_pkt, e_pkf, e_gdtt, e_gdtf, e_gdft, e_gdff, e_ift, e_iff, e_not, e_ln, e_lnT, e_cp, e_cvi, e_ex20, e_ex21, e_ex30, e_ex31, e_ex32, e_add, e_sub, e_mul, e_quo, e_rem, e_and, e_or, e_xor, e_shl, e_shr, e_eql, e_neq, e_lss, e_leq, e_gtr, e_geq, e_beq, e_bne, e_peq1, e_peq2, e_pne1, e_pne2, e_zeq1, e_zeq2, e_zne1, e_zne2, e_feq1, e_fne1, e_feq2, e_fne2, e_seq, e_sne, e_ta1, e_ta2, Nat.zero_add, Nat.add_zero, Bool.not_true, Bool.not_false]
  refine park_ok fun w1 l1 hk1 hc1 => ?_
  have z1 := z.emp hk1
  obtain ⟨va, vt, rfl, ha, ht⟩ := hc1.ex
  have sca := ha.scal
  obtain ⟨rvs, ht1, _⟩ := id ht
  have sct := ht1.scal
  refine nw_r fun w2 r2 hk2 hz2 => ?_
  refine stn_r (cs := park.cells va vt) r2 rfl (show 0 + 14 ≤ 14 by decide) (by unfold Cfg.cells; simp only [List.all_cons, List.all_nil, sca, sct]; rfl) fun w3 r3 hk3 hz3 => ?_
  replace r3 : Row w3 w1.heap.size 34 (park.cells va vt) := r3
  refine ld1_r (v := I 5) r3 rfl ?_
  try simp only [e_fd, e_nck, e_pkt, e_pkf, e_gdtt, e_gdtf, e_gdft, e_gdff, e_ift, e_iff, e_not, e_ln, e_lnT, e_cp, e_cvi, e_ex20, e_ex21, e_ex30, e_ex31, e_ex32, e_add, e_sub, e_mul, e_quo, e_rem, e_and, e_or, e_xor, e_shl, e_shr, e_eql, e_neq, e_lss, e_leq, e_gtr, e_geq, e_beq, e_bne, e_peq1, e_peq2, e_pne1, e_pne2, e_zeq1, e_zeq2, e_zne1, e_zne2, e_feq1, e_fne1, e_feq2, e_fne2, e_seq, e_sne, e_ta1, e_ta2, Nat.zero_add, Nat.add_zero, Bool.not_true, Bool.not_false]
  have e8 : IntKind.i64.wrap ((5 : Int) + 3) = 8 := by decide
  have e82 : IntKind.i64.wrap ((6 : Int) + 2) = 8 := by decide
  rw [e8]
  refine st1_r r3 (show 12 < 14 by decide) rfl fun w4 r4 hk4 hz4 => ?_
  replace r4 : Row w4 w1.heap.size 34 (({ park with pg := 8 } : Cfg).cells va vt) := r4
  refine ld1_r (v := I 6) r4 rfl ?_
  try simp only [e_fd, e_nck, e_pkt, e_pkf, e_gdtt, e_gdtf, e_gdft, e_gdff, e_ift, e_iff, e_not, e_ln, e_lnT, e_cp, e_cvi, e_ex20, e_ex21, e_ex30, e_ex31, e_ex32, e_add, e_sub, e_mul, e_quo, e_rem, e_and, e_or, e_xor, e_shl, e_shr, e_eql, e_neq, e_lss, e_leq, e_gtr, e_geq, e_beq, e_bne, e_peq1, e_peq2, e_pne1, e_pne2, e_zeq1, e_zeq2, e_zne1, e_zne2, e_feq1, e_fne1, e_feq2, e_fne2, e_seq, e_sne, e_ta1, e_ta2, Nat.zero_add, Nat.add_zero, Bool.not_true, Bool.not_false]
  rw [e82]
  refine st1_r r4 (show 13 < 14 by decide) rfl fun w5 r5 hk5 hz5 => ?_
  replace r5 : Row w5 w1.heap.size 34 (parkU.cells va vt) := r5
  have k5 : Kp Emp w1 w5 := ((hk2.then hk3 fun b hb (q : b = _) => by omega).then hk4 fun b hb (q : b = _) => by omega).then hk5 fun b hb (q : b = _) => by omega
  have z5 := z1.emp k5
  have hc5 : Cg (Nb w w1) w5 (parkU.cells va vt) parkU := ⟨va, vt, rfl, ha.kp' k5, ht.kp' k5⟩
  unfold s15_p3 s15_p3_d
  have kd : Kp Emp w5 (drw w5) := kp_drw
  generalize drw w5 = w6 at kd ⊢
  have z6 := z5.emp kd
  obtain ⟨M, m, h, hr, hM, hV⟩ := z6.ex
  refine ldn_r (kd.row' r5) (show 0 + 14 ≤ 14 by decide) ?_
  try simp only [e_fd, e_nck, e_pkt, e_pkf, e_gdtt, e_gdtf, e_gdft, e_gdff, e_ift, e_iff, e_not, e_ln, e_lnT, e_cp, e_cvi, e_ex20, e_ex21, e_ex30, e_ex31, e_ex32, e_add, e_sub, e_mul, e_quo, e_rem, e_and, e_or, e_xor, e_shl, e_shr, e_eql, e_neq, e_lss, e_leq, e_gtr, e_geq, e_beq, e_bne, e_peq1, e_peq2, e_pne1, e_pne2, e_zeq1, e_zeq2, e_zne1, e_zne2, e_feq1, e_fne1, e_feq2, e_fne2, e_seq, e_sne, e_ta1, e_ta2, Nat.zero_add, Nat.add_zero, Bool.not_true, Bool.not_false]
  refine ld1_r hr rfl ?_
  refine clone_ok h.jn fun w7 M7 j7 lob7 hx7 hk7 ho7 jn7 => ⟨hk7.below', ?_⟩
  have s1 := hk1.size
  have s5 := k5.size
  have s6 := kd.size
  have hc7 : Cg (Nb w w1) w7 (parkU.cells va vt) parkU := ⟨va, vt, rfl, ((ha.kp' k5).kp' kd).kp' hk7, ((ht.kp' k5).kp' kd).kp' hk7⟩
  have eo := opn_tuned hi
  show cl Tryz.prog 38 #[.agg (parkU.cells va vt).toArray, P j7 0] _ w7
  refine open_ok hc7 parkU_v (by decide) jn7 (fun b q e => by have := q.2; have := ho7 j7 (.inl rfl); omega) z6.i.jb (fun hs => by rw [eo] at hs; cases hs) fun σ' hs w8 M8 e8 m8 hx8 hk8 hj8 ho8 he8 h8 => ?_
  rw [eo] at hs h8
  simp only at hs h8
  cases hs
  have k8 : Kp Emp w6 w8 := hk7.then hk8 fun b hb q => by have := ho7 b q; omega
  simp only [ex2_0, ex2_1, and_self]
  have kk : Kp Emp w w8 := ((hk1.trans k5).trans kd).trans k8
  exact other_end h8 (h.kp' k8) (k8.row' hr) rfl rfl rfl fun w9 hk9 => hK w9 (kk.trans hk9)
set_option maxHeartbeats 1000000 in
/-- the park with a larger attraction -/
theorem other_part {x : List Op} (hs : Scr W v x) (hxl : x.length ≤ 65536) (z : Lz W V w r e σ J) (hl : Jlm 48 72 1200 J) (hK : ∀ w', Kp Emp W w' → K (.bool true) w') : s15_p7 K v (P r 0) w := by
  have hi := z.i
  obtain ⟨M, m, h, hr, hM, hV⟩ := z.ex
  unfold s15_p7
  try simp only [e_fd, e_nck, e_pkt, e_pkf, e_gdtt, e_gdtf, e_gdft, e_gdff, e_ift, e_iff, e_not, e_ln, e_lnT, e_cp, e_cvi, e_ex20, e_ex21, e_ex30, e_ex31, e_ex32, e_add, e_sub, e_mul, e_quo, e_rem, e_and, e_or, e_xor, e_shl, e_shr, e_eql, e_neq, e_lss, e_leq, e_gtr, e_geq, e_beq, e_bne, e_peq1, e_peq2, e_pne1, e_pne2, e_zeq1, e_zeq2, e_zne1, e_zne2, e_feq1, e_fne1, e_feq2, e_fne2, e_seq, e_sne, e_ta1, e_ta2, Nat.zero_add, Nat.add_zero, Bool.not_true, Bool.not_false]
  refine ld1_r hr rfl ?_
  refine z.chk hl fun w0 z0 => ?_
  try simp only [e_fd, e_nck, e_pkt, e_pkf, e_gdtt, e_gdtf, e_gdft, e_gdff, e_ift, e_iff, e_not, e_ln, e_lnT, e_cp, e_cvi, e_ex20, e_ex21, e_ex30, e_ex31, e_ex32, e_add, e_sub, e_mul, e_quo, e_rem, e_and, e_or, e_xor, e_shl, e_shr, e_eql, e_neq, e_lss, e_leq, e_gtr, e_geq, e_beq, e_bne, e_peq1, e_peq2, e_pne1, e_pne2, e_zeq1, e_zeq2, e_zne1, e_zne2, e_feq1, e_fne1, e_feq2, e_fne2, e_seq, e_sne, e_ta1, e_ta2, Nat.zero_add, Nat.add_zero, Bool.not_true, Bool.not_false]
  clear hr h hM hV
  refine park_raw fun w1 ab tb r0 r1 r2 hk1 na nt n0 n1 n2 ra q0 q1 q2 qt => ?_
  have z1 := z0.emp hk1
  refine nw_r fun w2 r2 hk2 hz2 => ?_
  refine stn_r (cs := park.cells (.slice (some ⟨ab, 0, none⟩) 3 3) (.slice (some ⟨tb, 0, none⟩) 3 3)) r2 rfl (show 0 + 14 ≤ 14 by decide) rfl fun w3 r3 hk3 hz3 => ?_
  replace r3 : Row w3 w1.heap.size 34 (park.cells (.slice (some ⟨ab, 0, none⟩) 3 3) (.slice (some ⟨tb, 0, none⟩) 3 3)) := r3
  have k3 : Kp Emp w1 w3 := hk2.then hk3 fun b hb (q : b = _) => by omega
  unfold s15_p6 s15_p6_d
  have kd : Kp Emp w3 (drw w3) := kp_drw
  generalize drw w3 = w4 at kd ⊢
  have z4 := (z1.emp k3).emp kd
  have r4 := kd.row' r3
  have k4 := k3.trans kd
  have ra4 := k4.row' ra
  try simp only [e_fd, e_nck, e_pkt, e_pkf, e_gdtt, e_gdtf, e_gdft, e_gdff, e_ift, e_iff, e_not, e_ln, e_lnT, e_cp, e_cvi, e_ex20, e_ex21, e_ex30, e_ex31, e_ex32, e_add, e_sub, e_mul, e_quo, e_rem, e_and, e_or, e_xor, e_shl, e_shr, e_eql, e_neq, e_lss, e_leq, e_gtr, e_geq, e_beq, e_bne, e_peq1, e_peq2, e_pne1, e_pne2, e_zeq1, e_zeq2, e_zne1, e_zne2, e_feq1, e_fne1, e_feq2, e_fne2, e_seq, e_sne, e_ta1, e_ta2, Nat.zero_add, Nat.add_zero, Bool.not_true, Bool.not_false]
  refine ld1_r (v := .slice (some ⟨ab, 0, none⟩) 3 3) r4 rfl ?_
  refine hs.ln ?_
  try simp only [e_fd, e_nck, e_pkt, e_pkf, e_gdtt, e_gdtf, e_gdft, e_gdff, e_ift, e_iff, e_not, e_ln, e_lnT, e_cp, e_cvi, e_ex20, e_ex21, e_ex30, e_ex31, e_ex32, e_add, e_sub, e_mul, e_quo, e_rem, e_and, e_or, e_xor, e_shl, e_shr, e_eql, e_neq, e_lss, e_leq, e_gtr, e_geq, e_beq, e_bne, e_peq1, e_peq2, e_pne1, e_pne2, e_zeq1, e_zeq2, e_zne1, e_zne2, e_feq1, e_fne1, e_feq2, e_fne2, e_seq, e_sne, e_ta1, e_ta2, Nat.zero_add, Nat.add_zero, Bool.not_true, Bool.not_false]
  refine ld1_r (v := .slice (some ⟨ab, 0, none⟩) 3 3) r4 rfl ?_
  have sl4 : Sl Att.cells 5 w4 113 (some ab) (.slice (some ⟨ab, 0, none⟩) 3 3) parkA := ⟨3, [], rfl, by decide, rfl, by rw [List.append_nil]; exact ra4⟩
  refine sl4.ln ?_
  try simp only [e_fd, e_nck, e_pkt, e_pkf, e_gdtt, e_gdtf, e_gdft, e_gdff, e_ift, e_iff, e_not, e_ln, e_lnT, e_cp, e_cvi, e_ex20, e_ex21, e_ex30, e_ex31, e_ex32, e_add, e_sub, e_mul, e_quo, e_rem, e_and, e_or, e_xor, e_shl, e_shr, e_eql, e_neq, e_lss, e_leq, e_gtr, e_geq, e_beq, e_bne, e_peq1, e_peq2, e_pne1, e_pne2, e_zeq1, e_zeq2, e_zne1, e_zne2, e_feq1, e_fne1, e_feq2, e_fne2, e_seq, e_sne, e_ta1, e_ta2, Nat.zero_add, Nat.add_zero, Bool.not_true, Bool.not_false]
  refine ⟨by decide, ?_⟩
  have ei : ((x.length : Nat) : Int).tmod ((parkA.length : Nat) : Int) = ((x.length % 3 : Nat) : Int) := by
    rw [← Int.ofNat_tmod]; rfl
  rw [ei]
  have hlt : x.length % 3 < 3 := Nat.mod_lt _ (by decide)
  generalize x.length % 3 = i at hlt ⊢
  refine sl4.ix Att.len (i := i) hlt fun b l eb rb hj hlen _ => ?_
  cases eb
  try simp only [e_fd, e_nck, e_pkt, e_pkf, e_gdtt, e_gdtf, e_gdft, e_gdff, e_ift, e_iff, e_not, e_ln, e_lnT, e_cp, e_cvi, e_ex20, e_ex21, e_ex30, e_ex31, e_ex32, e_add, e_sub, e_mul, e_quo, e_rem, e_and, e_or, e_xor, e_shl, e_shr, e_eql, e_neq, e_lss, e_leq, e_gtr, e_geq, e_beq, e_bne, e_peq1, e_peq2, e_pne1, e_pne2, e_zeq1, e_zeq2, e_zne1, e_zne2, e_feq1, e_fne1, e_feq2, e_fne2, e_seq, e_sne, e_ta1, e_ta2, Nat.zero_add, Nat.add_zero, Bool.not_true, Bool.not_false]
  have hj0 := hj 0 (by decide)
  rw [Nat.add_zero] at hj0
  refine ld1_r (v := I (parkA[i]'hlt).cap) rb hj0 ?_
  try simp only [e_fd, e_nck, e_pkt, e_pkf, e_gdtt, e_gdtf, e_gdft, e_gdff, e_ift, e_iff, e_not, e_ln, e_lnT, e_cp, e_cvi, e_ex20, e_ex21, e_ex30, e_ex31, e_ex32, e_add, e_sub, e_mul, e_quo, e_rem, e_and, e_or, e_xor, e_shl, e_shr, e_eql, e_neq, e_lss, e_leq, e_gtr, e_geq, e_beq, e_bne, e_peq1, e_peq2, e_pne1, e_pne2, e_zeq1, e_zeq2, e_zne1, e_zne2, e_feq1, e_fne1, e_feq2, e_fne2, e_seq, e_sne, e_ta1, e_ta2, Nat.zero_add, Nat.add_zero, Bool.not_true, Bool.not_false]
  refine sl4.ix Att.len (i := i) hlt fun b2 l2 eb2 rb2 hj2 hlen2 _ => ?_
  cases eb2
  try simp only [e_fd, e_nck, e_pkt, e_pkf, e_gdtt, e_gdtf, e_gdft, e_gdff, e_ift, e_iff, e_not, e_ln, e_lnT, e_cp, e_cvi, e_ex20, e_ex21, e_ex30, e_ex31, e_ex32, e_add, e_sub, e_mul, e_quo, e_rem, e_and, e_or, e_xor, e_shl, e_shr, e_eql, e_neq, e_lss, e_leq, e_gtr, e_geq, e_beq, e_bne, e_peq1, e_peq2, e_pne1, e_pne2, e_zeq1, e_zeq2, e_zne1, e_zne2, e_feq1, e_fne1, e_feq2, e_fne2, e_seq, e_sne, e_ta1, e_ta2, Nat.zero_add, Nat.add_zero, Bool.not_true, Bool.not_false]
  have ecap : IntKind.i64.wrap ((parkA[i]'hlt).cap + 1) = (parkA[i]'hlt).cap + 1 := capA _ (List.getElem_mem hlt)
  rw [ecap]
  refine sl_upd (j := 0) (y := { (parkA[i]'hlt) with cap := (parkA[i]'hlt).cap + 1 }) sl4 Att.len hlt (by decide) rfl rfl fun w5 sl5 hk5 hz5 => ?_
  have eset : parkA.set i { (parkA[i]'hlt) with cap := (parkA[i]'hlt).cap + 1 } = parkAO i := by
    match i, hlt with
    | 0, _ => rfl
    | 1, _ => rfl
    | 2, _ => rfl
  rw [eset] at sl5
  have s1 := hk1.size
  have s4 := k4.size
  have r5 := hk5.row r4 (show ¬ w1.heap.size = ab by have := na.2; omega)
  have k5 : Kp Emp w0 w5 := (hk1.trans k4).then hk5 fun b hb (q : b = ab) => by have := na.1; omega
  have z5 := z0.emp k5
  have e5 : ∀ {T : TypeId} {l : List Value} {c : Nat}, T ≠ 113 → Row w1 c T l → Row w5 c T l := fun {T l c} hT hc => hk5.row (k4.row' hc) fun q => by
    have hq : c = ab := q
    subst hq
    have hty := row_ty ra hc
    exact hT hty.symm
  have ht5 : Rws (Nb w0 w1) w5 (.slice (some ⟨tb, 0, none⟩) 3 3) parkT := park_rws (e5 (by decide) q0) (e5 (by decide) q1) (e5 (by decide) q2) (e5 (by decide) qt) n0 n1 n2 nt
  have ha5 : Ar Att.cells 5 (Nb w0 w1) w5 (.slice (some ⟨ab, 0, none⟩) 3 3) (parkAO i) := sl5.ar Att.len (by
    match i, hlt with
    | 0, _ => decide
    | 1, _ => decide
    | 2, _ => decide) fun b q => by cases q; exact na
  unfold s15_p5 s15_p5_d
  have kd2 : Kp Emp w5 (drw w5) := kp_drw
  generalize drw w5 = w6 at kd2 ⊢
  have z6 := z5.emp kd2
  obtain ⟨M, m, h, hr, hM, hV⟩ := z6.ex
  refine ldn_r (kd2.row' r5) (show 0 + 14 ≤ 14 by decide) ?_
  try simp only [e_fd, e_nck, e_pkt, e_pkf, e_gdtt, e_gdtf, e_gdft, e_gdff, e_ift, e_iff, e_not, e_ln, e_lnT, e_cp, e_cvi, e_ex20, e_ex21, e_ex30, e_ex31, e_ex32, e_add, e_sub, e_mul, e_quo, e_rem, e_and, e_or, e_xor, e_shl, e_shr, e_eql, e_neq, e_lss, e_leq, e_gtr, e_geq, e_beq, e_bne, e_peq1, e_peq2, e_pne1, e_pne2, e_zeq1, e_zeq2, e_zne1, e_zne2, e_feq1, e_fne1, e_feq2, e_fne2, e_seq, e_sne, e_ta1, e_ta2, Nat.zero_add, Nat.add_zero, Bool.not_true, Bool.not_false]
  refine ld1_r hr rfl ?_
  refine clone_ok h.jn fun w7 M7 j7 lob7 hx7 hk7 ho7 jn7 => ⟨hk7.below', ?_⟩
  have s5 := hk5.size
  have s6 := kd2.size
  have hc7 : Cg (Nb w0 w1) w7 ((parkO i).cells (.slice (some ⟨ab, 0, none⟩) 3 3) (.slice (some ⟨tb, 0, none⟩) 3 3)) (parkO i) := ⟨_, _, rfl, (ha5.kp' kd2).kp' hk7, (ht5.kp' kd2).kp' hk7⟩
  have eo : opnS (parkO i) (snJ park σ J) = (snJ park σ J, none, 20) := by
    have h1 : (snJ park σ J).off = false := hi.off
    have h2 : (snJ park σ J).left = 0 := hi.lf
    unfold opnS
    rw [if_neg (by rw [h1]; decide), if_neg (by rw [h2]; decide), opn_other hlt hi, due0 h2]
  show cl Tryz.prog 38 #[.agg ((parkO i).cells (.slice (some ⟨ab, 0, none⟩) 3 3) (.slice (some ⟨tb, 0, none⟩) 3 3)).toArray, P j7 0] _ w7
  refine open_ok hc7 (parkO_v hlt) (show park.mb ≤ 1000000 by decide) jn7 (fun b q e => by have := q.2; have := ho7 j7 (.inl rfl); omega) z6.i.jb (fun _ w8 M8 lob8 ev hx8 hk8 ho8 jn8 her => ?_) (fun σ' hs => by rw [eo] at hs; cases hs)
  rw [eo] at her
  simp only at her
  have k8 : Kp Emp w6 w8 := hk7.then hk8 fun b hb q => by have := ho7 b q; omega
  have z8 := z6.emp k8
  simp only [ex2_0, ex2_1, and_self]
  exact tuned_part z8 hi (fun w9 hk9 => hK w9 (z8.k.trans hk9)) her
end
section
variable {W w w' w1 : World} {V F M : Nat → Prop} {r e j n : Nat} {σ : Sg} {J : Jr} {K : Value → World → Prop} {v : Value} {lob : Option Nat} {xs : List Op} {m : Me} {C : Cfg}
set_option maxHeartbeats 1000000 in
theorem other_walk (hs : Scr W v xs) : cl Tryz.prog 15 #[v] (fun e W' => e = .bool true ∧ Below W.heap.size W W') W := by
  have hs0 := hs
  apply c15
  unfold s15_p11
  refine small_ok hs (Kp.refl _ _) fun rr hr => ?_
  cases rr with
  | false =>
    simp only [Bool.not_false, e_fd, e_nck, e_pkt, e_pkf, e_gdtt, e_gdtf, e_gdft, e_gdff, e_ift, e_iff, e_not, e_ln, e_lnT, e_cp, e_cvi, e_ex20, e_ex21, e_ex30, e_ex31, e_ex32, e_add, e_sub, e_mul, e_quo, e_rem, e_and, e_or, e_xor, e_shl, e_shr, e_eql, e_neq, e_lss, e_leq, e_gtr, e_geq, e_beq, e_bne, e_peq1, e_peq2, e_pne1, e_pne2, e_zeq1, e_zeq2, e_zne1, e_zne2, e_feq1, e_fne1, e_feq2, e_fne2, e_seq, e_sne, e_ta1, e_ta2, Nat.zero_add, Nat.add_zero, Bool.not_true, Bool.not_false]
    exact ⟨trivial, (Kp.refl _ _).below'⟩
  | true =>
    obtain ⟨hxl, hbl⟩ := hr rfl
    simp only [Bool.not_true, e_fd, e_nck, e_pkt, e_pkf, e_gdtt, e_gdtf, e_gdft, e_gdff, e_ift, e_iff, e_not, e_ln, e_lnT, e_cp, e_cvi, e_ex20, e_ex21, e_ex30, e_ex31, e_ex32, e_add, e_sub, e_mul, e_quo, e_rem, e_and, e_or, e_xor, e_shl, e_shr, e_eql, e_neq, e_lss, e_leq, e_gtr, e_geq, e_beq, e_bne, e_peq1, e_peq2, e_pne1, e_pne2, e_zeq1, e_zeq2, e_zne1, e_zne2, e_feq1, e_fne1, e_feq2, e_fne2, e_seq, e_sne, e_ta1, e_ta2, Nat.zero_add, Nat.add_zero, Bool.not_true, Bool.not_false]
    refine pj_ok2 fun w1 hk1 => ?_
    refine newRig_ok ⟨by decide, by decide⟩ hk1 fun w2 r e z2 hk2 => ?_
    obtain ⟨its, h1, h2, h3⟩ := hs
    have hil : its.length = xs.length := by rw [← h1, List.length_map]
    have hbl' : ∀ p ∈ its, p.1.bs.length ≤ 65536 := fun p hp => hbl _ (by rw [← h1]; exact List.mem_map_of_mem hp)
    refine h2.ln ?_
    unfold s15_p10
    refine loop_n its.length (fun i l w' => ∃ σ J, l = [v, P r 0, v, I (its.length : Nat), I (i : Nat)] ∧ Lz W Emp w' r e σ J ∧ Jlm 48 72 1200 J ∧ σ.seq ≤ ((i : Nat) : Int)) ⟨_, _, rfl, z2, Jlm.zero.2 (by decide), by simp [sg0]⟩ ?_ ?_
    · rintro i l w3 hi ⟨σ, J, rfl, z3, jl3, hq3⟩ B hB
      rw [s15_p10_Fe]
      unfold s15_p9
      have hp := h3 _ (List.getElem_mem hi)
      have hbi := hbl' _ (List.getElem_mem hi)
      simp only [dlt hi, e_fd, e_nck, e_pkt, e_pkf, e_gdtt, e_gdtf, e_gdft, e_gdff, e_ift, e_iff, e_not, e_ln, e_lnT, e_cp, e_cvi, e_ex20, e_ex21, e_ex30, e_ex31, e_ex32, e_add, e_sub, e_mul, e_quo, e_rem, e_and, e_or, e_xor, e_shl, e_shr, e_eql, e_neq, e_lss, e_leq, e_gtr, e_geq, e_beq, e_bne, e_peq1, e_peq2, e_pne1, e_pne2, e_zeq1, e_zeq2, e_zne1, e_zne2, e_feq1, e_fne1, e_feq2, e_fne2, e_seq, e_sne, e_ta1, e_ta2, Nat.zero_add, Nat.add_zero, Bool.not_true, Bool.not_false]
      refine each_r rfl (h2.kp' z3.k) hi (opC_len _) (by simp only [opC, List.all_cons, List.all_nil, hp.1.scal]; rfl) fun w4 r4 hk4 hz4 => ?_
      have z4 := z3.new hk4 (Nat.le_refl _) (show w3.heap.size < w4.heap.size by omega)
      refine ldn_r r4 (show 0 + 4 ≤ 4 by decide) ?_
      refine isReq_ok (p := its[i]) fun w5 hk5 => ?_
      have z5 := z4.emp hk5
      have r5 := hk5.row' r4
      generalize its[i] = op at hp hbi r5 ⊢
      have next : ∀ {w6 : World} {V6 : Nat → Prop} {σ' : Sg} {J' : Jr}, Lz W V6 w6 r e σ' J' → Jlm 48 72 1200 J' → σ'.seq ≤ ((i + 1 : Nat) : Int) → s15_p8 (fun e W' => e = .bool true ∧ Below W.heap.size W W') B v (P r 0) v (I (its.length : Nat)) (I (i : Nat)) w6 := fun {w6 V6 σ' J'} z6 jl6 hq6 => by
        unfold s15_p8
        try simp only [e_fd, e_nck, e_pkt, e_pkf, e_gdtt, e_gdtf, e_gdft, e_gdff, e_ift, e_iff, e_not, e_ln, e_lnT, e_cp, e_cvi, e_ex20, e_ex21, e_ex30, e_ex31, e_ex32, e_add, e_sub, e_mul, e_quo, e_rem, e_and, e_or, e_xor, e_shl, e_shr, e_eql, e_neq, e_lss, e_leq, e_gtr, e_geq, e_beq, e_bne, e_peq1, e_peq2, e_pne1, e_pne2, e_zeq1, e_zeq2, e_zne1, e_zne2, e_feq1, e_fne1, e_feq2, e_fne2, e_seq, e_sne, e_ta1, e_ta2, Nat.zero_add, Nat.add_zero, Bool.not_true, Bool.not_false]
        rw [inc i (by omega)]
        exact hB _ _ ⟨σ', J', rfl, z6.sub fun c q => q.elim, jl6, hq6⟩
      have sgs := z5.i.g.seq
      have sgn := z5.i.g.now
      cases hk : (op.1.kind == 0 || op.1.kind == 4) with
      | false =>
        try simp only [e_fd, e_nck, e_pkt, e_pkf, e_gdtt, e_gdtf, e_gdft, e_gdff, e_ift, e_iff, e_not, e_ln, e_lnT, e_cp, e_cvi, e_ex20, e_ex21, e_ex30, e_ex31, e_ex32, e_add, e_sub, e_mul, e_quo, e_rem, e_and, e_or, e_xor, e_shl, e_shr, e_eql, e_neq, e_lss, e_leq, e_gtr, e_geq, e_beq, e_bne, e_peq1, e_peq2, e_pne1, e_pne2, e_zeq1, e_zeq2, e_zne1, e_zne2, e_feq1, e_fne1, e_feq2, e_fne2, e_seq, e_sne, e_ta1, e_ta2, Nat.zero_add, Nat.add_zero, Bool.not_true, Bool.not_false]
        exact next z5 jl3 (by omega)
      | true =>
        try simp only [e_fd, e_nck, e_pkt, e_pkf, e_gdtt, e_gdtf, e_gdft, e_gdff, e_ift, e_iff, e_not, e_ln, e_lnT, e_cp, e_cvi, e_ex20, e_ex21, e_ex30, e_ex31, e_ex32, e_add, e_sub, e_mul, e_quo, e_rem, e_and, e_or, e_xor, e_shl, e_shr, e_eql, e_neq, e_lss, e_leq, e_gtr, e_geq, e_beq, e_bne, e_peq1, e_peq2, e_pne1, e_pne2, e_zeq1, e_zeq2, e_zne1, e_zne2, e_feq1, e_fne1, e_feq2, e_fne2, e_seq, e_sne, e_ta1, e_ta2, Nat.zero_add, Nat.add_zero, Bool.not_true, Bool.not_false]
        refine ld1_r (v := op.2) r5 rfl ?_
        have szz := z5.k.size
        refine z5.send (by omega) (hp.1.kp' z5.k) (fun b q => by omega) hp.2.1 fun w9 v9 b9 S9 z9 s9 hb9 hk9 hS9 hW9 => ?_
        have hqq := hndS_q park op.1.bs σ J
        exact next z9 (jl3.hnd park_cv park_mb (by decide) z5.i hp.2.1 (by omega)) (by omega)
    · rintro l w3 ⟨σ, J, rfl, z3, jl3, hq3⟩ B
      rw [s15_p10_Fe]
      unfold s15_p9
      simp only [dnlt, e_fd, e_nck, e_pkt, e_pkf, e_gdtt, e_gdtf, e_gdft, e_gdff, e_ift, e_iff, e_not, e_ln, e_lnT, e_cp, e_cvi, e_ex20, e_ex21, e_ex30, e_ex31, e_ex32, e_add, e_sub, e_mul, e_quo, e_rem, e_and, e_or, e_xor, e_shl, e_shr, e_eql, e_neq, e_lss, e_leq, e_gtr, e_geq, e_beq, e_bne, e_peq1, e_peq2, e_pne1, e_pne2, e_zeq1, e_zeq2, e_zne1, e_zne2, e_feq1, e_fne1, e_feq2, e_fne2, e_seq, e_sne, e_ta1, e_ta2, Nat.zero_add, Nat.add_zero, Bool.not_true, Bool.not_false]
      exact other_part hs0 hxl z3 jl3 fun w' hk => ⟨rfl, hk.below'⟩
end
end Go.Proofs.Qxb6500896aGreat
