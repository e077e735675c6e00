import Derived.Test.Qxb6500896aGreatK41
namespace Go.Proofs.Qxb6500896aGreat
open Go.Sh Go.RowKit
set_option linter.unusedVariables false
set_option linter.unusedSimpArgs false

def encRec (r : Rec) : List Int := uI r.id ++ uI r.st ++ uI r.cl ++ uI r.sz ++ uI r.ln ++ uI r.ex ++ encLegs r.legs
def encRs (rs : List Rec) : List Int := rs.flatMap encRec
def encIds (l : List Int) : List Int := l.flatMap uI
def encLn (l : List Int) : List Int := uI (l.length : Nat) ++ encIds l
def encLns (ls : List (List Int)) : List Int := ls.flatMap encLn
/-- a snapshot -/
def encImg (im : Img) : List Int := [1] ++ uI im.rules ++ uI im.seq ++ uI im.now ++ uI (im.rs.length : Nat) ++ encRs im.rs ++ uI (im.ls.length : Nat) ++ encLns im.ls
theorem encRec_len {r : Rec} (h : r.legs.length ≤ 8) : (encRec r).length ≤ 207 := by
  have h1 := uI_len r.id
  have h2 := uI_len r.st
  have h3 := uI_len r.cl
  have h4 := uI_len r.sz
  have h5 := uI_len r.ln
  have h6 := uI_len r.ex
  have h7 := encLs_len r.legs
  have h8 := uI_len (r.legs.length : Nat)
  unfold encRec encLegs
  simp only [List.length_append]
  omega
theorem encRs_len {rs : List Rec} (h : ∀ r ∈ rs, r.legs.length ≤ 8) : (encRs rs).length ≤ 207 * rs.length := by
  induction rs with
  | nil => simp [encRs]
  | cons r rs ih =>
    have h1 := encRec_len (h r List.mem_cons_self)
    have h2 := ih fun r hr => h r (List.mem_cons_of_mem _ hr)
    have : encRs (r :: rs) = encRec r ++ encRs rs := rfl
    rw [this, List.length_append, List.length_cons]
    omega
theorem encIds_len (l : List Int) : (encIds l).length ≤ 9 * l.length := by
  induction l with
  | nil => simp [encIds]
  | cons x l ih =>
    have h1 := uI_len x
    have : encIds (x :: l) = uI x ++ encIds l := rfl
    rw [this, List.length_append, List.length_cons]
    omega
theorem encLns_len (ls : List (List Int)) : (encLns ls).length ≤ 9 * ls.length + 9 * lens ls := by
  induction ls with
  | nil => simp [encLns, lens]
  | cons l ls ih =>
    have h1 := uI_len (l.length : Nat)
    have h2 := encIds_len l
    have : encLns (l :: ls) = (uI (l.length : Nat) ++ encIds l) ++ encLns ls := rfl
    have e : lens (l :: ls) = l.length + lens ls := by simp [lens]
    rw [this, e]
    simp only [List.length_append, List.length_cons]
    omega
theorem encRs_app (a b : List Rec) : encRs (a ++ b) = encRs a ++ encRs b := by unfold encRs; rw [List.flatMap_append]
theorem encIds_app (a b : List Int) : encIds (a ++ b) = encIds a ++ encIds b := by unfold encIds; rw [List.flatMap_append]
theorem encLns_app (a b : List (List Int)) : encLns (a ++ b) = encLns a ++ encLns b := by unfold encLns; rw [List.flatMap_append]
theorem mem_lens {l : List Int} : ∀ {ls : List (List Int)}, l ∈ ls → l.length ≤ lens ls
  | [], h => by cases h
  | a :: ls, h => by
    have e : lens (a :: ls) = a.length + lens ls := by simp [lens]
    rw [e]
    rcases List.mem_cons.1 h with q | q
    · rw [q]; omega
    · have := mem_lens q; omega
section
variable {F G S : Nat → Prop} {w w' w0 w1 : World} {v lv rv : Value} {ob ob0 : Option Nat} {ys : List Int} {K : Value → World → Prop} {r : Rec} {rs : List Rec} {ls : List (List Int)} {l : List Value}
theorem appRec_ok (h : Ap w0 ob0 w v ys) (hl : ys.length ≤ 800000000) (ha : Ar lC 2 F w0 lv r.legs) (hF : ∀ b, F b → ob0 ≠ some b) (hn : RN r)
    (hK : ∀ w' v', Ap w0 ob0 w' v' (ys ++ encRec r) → RowK w w' → K v' w') : cl Tryz.prog 187 #[v, .agg (rC (r, lv)).toArray] K w := by
  have h1 := uI_len r.id
  have h2 := uI_len r.st
  have h3 := uI_len r.cl
  have h4 := uI_len r.sz
  have h5 := uI_len r.ln
  have h6 := uI_len r.ex
  have hll := hn.ll
  apply c187
  unfold s187_p1
  refine nw_r fun w1 r1 hk1 hz1 => ?_
  replace r1 : Row w1 w.heap.size 85 (rC (r, lv)) := r1
  have a1 := h.none hk1
  try simp only [e_fd, e_nck, e_pkt, e_pkf, e_gdtt, e_gdtf, e_gdft, e_gdff, e_ift, e_iff, e_not, e_ln, e_lnT, e_cp, e_cvi, e_ex20, e_ex21, e_ex30, e_ex31, e_ex32, e_add, e_sub, e_mul, e_quo, e_rem, e_and, e_or, e_xor, e_shl, e_shr, e_eql, e_neq, e_lss, e_leq, e_gtr, e_geq, e_beq, e_bne, e_peq1, e_peq2, e_pne1, e_pne2, e_zeq1, e_zeq2, e_zne1, e_zne2, e_feq1, e_fne1, e_feq2, e_fne2, e_seq, e_sne, e_ta1, e_ta2, Nat.zero_add, Nat.add_zero, Bool.not_true, Bool.not_false]
  refine ld1_r r1 rfl ?_
  refine a1.num (by omega) hn.id fun w2 v2 a2 k2 => ?_
  have r2 := k2 _ _ _ r1 (by decide)
  try simp only [e_fd, e_nck, e_pkt, e_pkf, e_gdtt, e_gdtf, e_gdft, e_gdff, e_ift, e_iff, e_not, e_ln, e_lnT, e_cp, e_cvi, e_ex20, e_ex21, e_ex30, e_ex31, e_ex32, e_add, e_sub, e_mul, e_quo, e_rem, e_and, e_or, e_xor, e_shl, e_shr, e_eql, e_neq, e_lss, e_leq, e_gtr, e_geq, e_beq, e_bne, e_peq1, e_peq2, e_pne1, e_pne2, e_zeq1, e_zeq2, e_zne1, e_zne2, e_feq1, e_fne1, e_feq2, e_fne2, e_seq, e_sne, e_ta1, e_ta2, Nat.zero_add, Nat.add_zero, Bool.not_true, Bool.not_false]
  refine ld1_r r2 rfl ?_
  refine a2.num (by simp only [List.length_append]; omega) hn.st fun w3 v3 a3 k3 => ?_
  have r3 := k3 _ _ _ r2 (by decide)
  try simp only [e_fd, e_nck, e_pkt, e_pkf, e_gdtt, e_gdtf, e_gdft, e_gdff, e_ift, e_iff, e_not, e_ln, e_lnT, e_cp, e_cvi, e_ex20, e_ex21, e_ex30, e_ex31, e_ex32, e_add, e_sub, e_mul, e_quo, e_rem, e_and, e_or, e_xor, e_shl, e_shr, e_eql, e_neq, e_lss, e_leq, e_gtr, e_geq, e_beq, e_bne, e_peq1, e_peq2, e_pne1, e_pne2, e_zeq1, e_zeq2, e_zne1, e_zne2, e_feq1, e_fne1, e_feq2, e_fne2, e_seq, e_sne, e_ta1, e_ta2, Nat.zero_add, Nat.add_zero, Bool.not_true, Bool.not_false]
  refine ld1_r r3 rfl ?_
  refine a3.num (by simp only [List.length_append]; omega) hn.cl fun w4 v4 a4 k4 => ?_
  have r4 := k4 _ _ _ r3 (by decide)
  try simp only [e_fd, e_nck, e_pkt, e_pkf, e_gdtt, e_gdtf, e_gdft, e_gdff, e_ift, e_iff, e_not, e_ln, e_lnT, e_cp, e_cvi, e_ex20, e_ex21, e_ex30, e_ex31, e_ex32, e_add, e_sub, e_mul, e_quo, e_rem, e_and, e_or, e_xor, e_shl, e_shr, e_eql, e_neq, e_lss, e_leq, e_gtr, e_geq, e_beq, e_bne, e_peq1, e_peq2, e_pne1, e_pne2, e_zeq1, e_zeq2, e_zne1, e_zne2, e_feq1, e_fne1, e_feq2, e_fne2, e_seq, e_sne, e_ta1, e_ta2, Nat.zero_add, Nat.add_zero, Bool.not_true, Bool.not_false]
  refine ld1_r r4 rfl ?_
  refine a4.num (by simp only [List.length_append]; omega) hn.sz fun w5 v5 a5 k5 => ?_
  have r5 := k5 _ _ _ r4 (by decide)
  try simp only [e_fd, e_nck, e_pkt, e_pkf, e_gdtt, e_gdtf, e_gdft, e_gdff, e_ift, e_iff, e_not, e_ln, e_lnT, e_cp, e_cvi, e_ex20, e_ex21, e_ex30, e_ex31, e_ex32, e_add, e_sub, e_mul, e_quo, e_rem, e_and, e_or, e_xor, e_shl, e_shr, e_eql, e_neq, e_lss, e_leq, e_gtr, e_geq, e_beq, e_bne, e_peq1, e_peq2, e_pne1, e_pne2, e_zeq1, e_zeq2, e_zne1, e_zne2, e_feq1, e_fne1, e_feq2, e_fne2, e_seq, e_sne, e_ta1, e_ta2, Nat.zero_add, Nat.add_zero, Bool.not_true, Bool.not_false]
  refine ld1_r r5 rfl ?_
  refine a5.num (by simp only [List.length_append]; omega) hn.ln fun w6 v6 a6 k6 => ?_
  have r6 := k6 _ _ _ r5 (by decide)
  try simp only [e_fd, e_nck, e_pkt, e_pkf, e_gdtt, e_gdtf, e_gdft, e_gdff, e_ift, e_iff, e_not, e_ln, e_lnT, e_cp, e_cvi, e_ex20, e_ex21, e_ex30, e_ex31, e_ex32, e_add, e_sub, e_mul, e_quo, e_rem, e_and, e_or, e_xor, e_shl, e_shr, e_eql, e_neq, e_lss, e_leq, e_gtr, e_geq, e_beq, e_bne, e_peq1, e_peq2, e_pne1, e_pne2, e_zeq1, e_zeq2, e_zne1, e_zne2, e_feq1, e_fne1, e_feq2, e_fne2, e_seq, e_sne, e_ta1, e_ta2, Nat.zero_add, Nat.add_zero, Bool.not_true, Bool.not_false]
  refine ld1_r r6 rfl ?_
  refine a6.num (by simp only [List.length_append]; omega) hn.ex fun w7 v7 a7 k7 => ?_
  have r7 := k7 _ _ _ r6 (by decide)
  try simp only [e_fd, e_nck, e_pkt, e_pkf, e_gdtt, e_gdtf, e_gdft, e_gdff, e_ift, e_iff, e_not, e_ln, e_lnT, e_cp, e_cvi, e_ex20, e_ex21, e_ex30, e_ex31, e_ex32, e_add, e_sub, e_mul, e_quo, e_rem, e_and, e_or, e_xor, e_shl, e_shr, e_eql, e_neq, e_lss, e_leq, e_gtr, e_geq, e_beq, e_bne, e_peq1, e_peq2, e_pne1, e_pne2, e_zeq1, e_zeq2, e_zne1, e_zne2, e_feq1, e_fne1, e_feq2, e_fne2, e_seq, e_sne, e_ta1, e_ta2, Nat.zero_add, Nat.add_zero, Bool.not_true, Bool.not_false]
  refine ld1_r (v := lv) r7 rfl ?_
  refine appLegs_ok a7 (by simp only [List.length_append]; omega) ha hF hn.lg (by omega) fun w8 v8 a8 k8 => ?_
  refine hK w8 v8 ?_ ((RowK.none hk1).trans (k2.trans (k3.trans (k4.trans (k5.trans (k6.trans (k7.trans k8)))))))
  unfold encRec
  simpa only [List.append_assoc] using a8
/-- the lines of a snapshot -/
theorem encL_ok (h : Ap w0 ob0 w v ys) (hl : ys.length ≤ 500000000) (hli : Rws F w0 lv ls) (hF : ∀ b, F b → ob0 ≠ some b) (hid : ∀ l ∈ ls, ∀ x ∈ l, N63 x) (hlen : lens ls ≤ 1000000) (hls : ls.length ≤ 1000000)
    (hK : ∀ w' v', Ap w0 ob0 w' v' (ys ++ encLns ls) → K v' w') : s189_p7 K v lv (I (ls.length : Nat)) (I 0) w := by
  obtain ⟨lvs, l1, l2, l3⟩ := hli
  unfold s189_p7
  refine loop_n ls.length (fun i l w' => ∃ v', l = [v', lv, I (ls.length : Nat), I (i : Nat)] ∧ Ap w0 ob0 w' v' (ys ++ encLns (ls.take i))) ⟨v, rfl, by simpa [encLns] using h⟩ ?_ ?_
  · rintro i l w2 hi ⟨v2, rfl, a2⟩ B hB
    have hil : i < lvs.length := by omega
    have hA := l3 i hil hi
    have hmem := List.getElem_mem hi
    have hli : ls[i].length ≤ lens ls := mem_lens hmem
    have htk : lens (ls.take i) ≤ lens ls := by
      have : lens ls = lens (ls.take i) + lens (ls.drop i) := by
        unfold lens
        rw [← List.sum_append_nat, ← List.map_append, List.take_append_drop]
      omega
    have b1 : (ys ++ encLns (ls.take i)).length ≤ 600000000 := by
      have := encLns_len (ls.take i)
      rw [List.length_take] at this
      rw [List.length_append]
      omega
    rw [s189_p7_Fe]
    unfold s189_p6
    try simp only [e_fd, e_nck, e_pkt, e_pkf, e_gdtt, e_gdtf, e_gdft, e_gdff, e_ift, e_iff, e_not, e_ln, e_lnT, e_cp, e_cvi, e_ex20, e_ex21, e_ex30, e_ex31, e_ex32, e_add, e_sub, e_mul, e_quo, e_rem, e_and, e_or, e_xor, e_shl, e_shr, e_eql, e_neq, e_lss, e_leq, e_gtr, e_geq, e_beq, e_bne, e_peq1, e_peq2, e_pne1, e_pne2, e_zeq1, e_zeq2, e_zne1, e_zne2, e_feq1, e_fne1, e_feq2, e_fne2, e_seq, e_sne, e_ta1, e_ta2, Nat.zero_add, Nat.add_zero, Bool.not_true, Bool.not_false]
    rw [dlt hi]
    try simp only [e_fd, e_nck, e_pkt, e_pkf, e_gdtt, e_gdtf, e_gdft, e_gdff, e_ift, e_iff, e_not, e_ln, e_lnT, e_cp, e_cvi, e_ex20, e_ex21, e_ex30, e_ex31, e_ex32, e_add, e_sub, e_mul, e_quo, e_rem, e_and, e_or, e_xor, e_shl, e_shr, e_eql, e_neq, e_lss, e_leq, e_gtr, e_geq, e_beq, e_bne, e_peq1, e_peq2, e_pne1, e_pne2, e_zeq1, e_zeq2, e_zne1, e_zne2, e_feq1, e_fne1, e_feq2, e_fne2, e_seq, e_sne, e_ta1, e_ta2, Nat.zero_add, Nat.add_zero, Bool.not_true, Bool.not_false]
    unfold s189_p5
    refine (l1.kp a2.kp fun b hb e => hF b hb e).ix hil fun bb o _ hcl => ?_
    refine hcl.ld0 rfl ?_
    refine hA.ln ?_
    refine a2.num (by omega) ⟨by omega, by have := hA.len; omega⟩ fun w3 v3 a3 k3 => ?_
    refine hA.ln ?_
    unfold s189_p4
    refine loop_n ls[i].length (fun k l w' => ∃ v', l = [v', lv, I (ls.length : Nat), I (i : Nat), lvs[i], I (ls[i].length : Nat), I (k : Nat)] ∧ Ap w0 ob0 w' v' (ys ++ encLns (ls.take i) ++ uI (ls[i].length : Nat) ++ encIds (ls[i].take k))) ⟨v3, rfl, by simpa [encIds] using a3⟩ ?_ ?_
    · rintro k l w4 hk ⟨v4, rfl, a4⟩ B2 hB2
      rw [s189_p4_Fe]
      unfold s189_p3
      try simp only [e_fd, e_nck, e_pkt, e_pkf, e_gdtt, e_gdtf, e_gdft, e_gdff, e_ift, e_iff, e_not, e_ln, e_lnT, e_cp, e_cvi, e_ex20, e_ex21, e_ex30, e_ex31, e_ex32, e_add, e_sub, e_mul, e_quo, e_rem, e_and, e_or, e_xor, e_shl, e_shr, e_eql, e_neq, e_lss, e_leq, e_gtr, e_geq, e_beq, e_bne, e_peq1, e_peq2, e_pne1, e_pne2, e_zeq1, e_zeq2, e_zne1, e_zne2, e_feq1, e_fne1, e_feq2, e_fne2, e_seq, e_sne, e_ta1, e_ta2, Nat.zero_add, Nat.add_zero, Bool.not_true, Bool.not_false]
      rw [dlt hk]
      try simp only [e_fd, e_nck, e_pkt, e_pkf, e_gdtt, e_gdtf, e_gdft, e_gdff, e_ift, e_iff, e_not, e_ln, e_lnT, e_cp, e_cvi, e_ex20, e_ex21, e_ex30, e_ex31, e_ex32, e_add, e_sub, e_mul, e_quo, e_rem, e_and, e_or, e_xor, e_shl, e_shr, e_eql, e_neq, e_lss, e_leq, e_gtr, e_geq, e_beq, e_bne, e_peq1, e_peq2, e_pne1, e_pne2, e_zeq1, e_zeq2, e_zne1, e_zne2, e_feq1, e_fne1, e_feq2, e_fne2, e_seq, e_sne, e_ta1, e_ta2, Nat.zero_add, Nat.add_zero, Bool.not_true, Bool.not_false]
      refine (hA.kp a4.kp fun b hb e => hF b hb e).ix hk fun bb o _ hcl => ?_
      refine hcl.ld0 rfl ?_
      refine a4.num ?_ (hid _ hmem _ (List.getElem_mem hk)) fun w5 v5 a5 k5 => ?_
      · have h1 := uI_len (ls[i].length : Nat)
        have h2 := encIds_len (ls[i].take k)
        rw [List.length_take] at h2
        rw [List.length_append, List.length_append]
        omega
      try simp only [e_fd, e_nck, e_pkt, e_pkf, e_gdtt, e_gdtf, e_gdft, e_gdff, e_ift, e_iff, e_not, e_ln, e_lnT, e_cp, e_cvi, e_ex20, e_ex21, e_ex30, e_ex31, e_ex32, e_add, e_sub, e_mul, e_quo, e_rem, e_and, e_or, e_xor, e_shl, e_shr, e_eql, e_neq, e_lss, e_leq, e_gtr, e_geq, e_beq, e_bne, e_peq1, e_peq2, e_pne1, e_pne2, e_zeq1, e_zeq2, e_zne1, e_zne2, e_feq1, e_fne1, e_feq2, e_fne2, e_seq, e_sne, e_ta1, e_ta2, Nat.zero_add, Nat.add_zero, Bool.not_true, Bool.not_false]
      rw [inc k (by omega)]
      refine hB2 _ w5 ⟨v5, rfl, ?_⟩
      rw [List.take_succ_eq_append_getElem hk, encIds_app, show encIds [ls[i][k]] = uI ls[i][k] by simp [encIds], ← List.append_assoc]
      exact a5
    · rintro l w4 ⟨v4, rfl, a4⟩ B2
      rw [s189_p4_Fe]
      unfold s189_p3
      try simp only [e_fd, e_nck, e_pkt, e_pkf, e_gdtt, e_gdtf, e_gdft, e_gdff, e_ift, e_iff, e_not, e_ln, e_lnT, e_cp, e_cvi, e_ex20, e_ex21, e_ex30, e_ex31, e_ex32, e_add, e_sub, e_mul, e_quo, e_rem, e_and, e_or, e_xor, e_shl, e_shr, e_eql, e_neq, e_lss, e_leq, e_gtr, e_geq, e_beq, e_bne, e_peq1, e_peq2, e_pne1, e_pne2, e_zeq1, e_zeq2, e_zne1, e_zne2, e_feq1, e_fne1, e_feq2, e_fne2, e_seq, e_sne, e_ta1, e_ta2, Nat.zero_add, Nat.add_zero, Bool.not_true, Bool.not_false]
      rw [dnlt]
      try simp only [e_fd, e_nck, e_pkt, e_pkf, e_gdtt, e_gdtf, e_gdft, e_gdff, e_ift, e_iff, e_not, e_ln, e_lnT, e_cp, e_cvi, e_ex20, e_ex21, e_ex30, e_ex31, e_ex32, e_add, e_sub, e_mul, e_quo, e_rem, e_and, e_or, e_xor, e_shl, e_shr, e_eql, e_neq, e_lss, e_leq, e_gtr, e_geq, e_beq, e_bne, e_peq1, e_peq2, e_pne1, e_pne2, e_zeq1, e_zeq2, e_zne1, e_zne2, e_feq1, e_fne1, e_feq2, e_fne2, e_seq, e_sne, e_ta1, e_ta2, Nat.zero_add, Nat.add_zero, Bool.not_true, Bool.not_false]
      unfold s189_p2
      try simp only [e_fd, e_nck, e_pkt, e_pkf, e_gdtt, e_gdtf, e_gdft, e_gdff, e_ift, e_iff, e_not, e_ln, e_lnT, e_cp, e_cvi, e_ex20, e_ex21, e_ex30, e_ex31, e_ex32, e_add, e_sub, e_mul, e_quo, e_rem, e_and, e_or, e_xor, e_shl, e_shr, e_eql, e_neq, e_lss, e_leq, e_gtr, e_geq, e_beq, e_bne, e_peq1, e_peq2, e_pne1, e_pne2, e_zeq1, e_zeq2, e_zne1, e_zne2, e_feq1, e_fne1, e_feq2, e_fne2, e_seq, e_sne, e_ta1, e_ta2, Nat.zero_add, Nat.add_zero, Bool.not_true, Bool.not_false]
      rw [inc i (by omega)]
      refine hB _ w4 ⟨v4, rfl, ?_⟩
      rw [List.take_length] at a4
      rw [List.take_succ_eq_append_getElem hi, encLns_app, show encLns [ls[i]] = uI (ls[i].length : Nat) ++ encIds ls[i] by simp [encLns, encLn], ← List.append_assoc, ← List.append_assoc]
      exact a4
  · rintro l w2 ⟨v2, rfl, a2⟩ B
    rw [s189_p7_Fe]
    unfold s189_p6
    try simp only [e_fd, e_nck, e_pkt, e_pkf, e_gdtt, e_gdtf, e_gdft, e_gdff, e_ift, e_iff, e_not, e_ln, e_lnT, e_cp, e_cvi, e_ex20, e_ex21, e_ex30, e_ex31, e_ex32, e_add, e_sub, e_mul, e_quo, e_rem, e_and, e_or, e_xor, e_shl, e_shr, e_eql, e_neq, e_lss, e_leq, e_gtr, e_geq, e_beq, e_bne, e_peq1, e_peq2, e_pne1, e_pne2, e_zeq1, e_zeq2, e_zne1, e_zne2, e_feq1, e_fne1, e_feq2, e_fne2, e_seq, e_sne, e_ta1, e_ta2, Nat.zero_add, Nat.add_zero, Bool.not_true, Bool.not_false]
    rw [dnlt]
    try simp only [e_fd, e_nck, e_pkt, e_pkf, e_gdtt, e_gdtf, e_gdft, e_gdff, e_ift, e_iff, e_not, e_ln, e_lnT, e_cp, e_cvi, e_ex20, e_ex21, e_ex30, e_ex31, e_ex32, e_add, e_sub, e_mul, e_quo, e_rem, e_and, e_or, e_xor, e_shl, e_shr, e_eql, e_neq, e_lss, e_leq, e_gtr, e_geq, e_beq, e_bne, e_peq1, e_peq2, e_pne1, e_pne2, e_zeq1, e_zeq2, e_zne1, e_zne2, e_feq1, e_fne1, e_feq2, e_fne2, e_seq, e_sne, e_ta1, e_ta2, Nat.zero_add, Nat.add_zero, Bool.not_true, Bool.not_false]
    unfold s189_p1
    rw [List.take_length] at a2
    exact hK w2 v2 a2
theorem encImg_ok {im : Img} (hN : ImN im) (hr1 : N63 im.rules) (hro : Ro F w rv im.rs) (hli : Rws F w lv im.ls) (hF : ∀ b, F b → b < w.heap.size) (hrl : im.rs.length ≤ 1000000) (hlen : lens im.ls ≤ 1000000) (hls : im.ls.length ≤ 1000000)
    (hK : ∀ w' v' b, Sl bC 1 w' 5 (some b) v' (encImg im) → Nb w w' b → Kp Emp w w' → K v' w') : cl Tryz.prog 189 #[.agg (imC im.rules im.seq im.now rv lv).toArray] K w := by
  have h1 := uI_len im.rules
  have h2 := uI_len im.seq
  have h3 := uI_len im.now
  have h4 := uI_len (im.rs.length : Nat)
  apply c189
  unfold s189_p11
  refine nw_r fun w1 r1 hk1 hz1 => ?_
  replace r1 : Row w1 w.heap.size 152 (imC im.rules im.seq im.now rv lv) := r1
  refine bsq_r (l := [U8 1]) rfl fun w2 r2 hk2 hz2 => ?_
  have s2 : Sl bC 1 w2 5 (some w1.heap.size) (.slice (some ⟨w1.heap.size, 0, none⟩) 1 1) [1] := ⟨1, [], rfl, by simp, by simp, r2⟩
  have a2 := Ap.new s2
  have k2 := hk1.trans hk2
  have hF2 : ∀ b, F b → some w1.heap.size ≠ some b := fun b hb e => by cases e; have := hF _ hb; omega
  have hro2 := hro.kp' k2
  have hli2 : Rws F w2 lv im.ls := hli.kp k2 (fun _ _ q => q)
  have rr2 := hk2.row' r1
  have fin : ∀ w' v', Ap w2 (some w1.heap.size) w' v' (encImg im) → K v' w' := fun w' v' a => by
    obtain ⟨ob, s, kk, o⟩ := a
    have k2' : Kp Emp w w' := k2.then kk fun b hb e => by cases e; omega
    have sz := k2.size
    rcases o with e | ⟨b, e, hb⟩
    · subst e; exact hK w' v' _ s ⟨by omega, s.lt⟩ k2'
    · subst e; exact hK w' v' b s ⟨by omega, s.lt⟩ k2'
  try simp only [e_fd, e_nck, e_pkt, e_pkf, e_gdtt, e_gdtf, e_gdft, e_gdff, e_ift, e_iff, e_not, e_ln, e_lnT, e_cp, e_cvi, e_ex20, e_ex21, e_ex30, e_ex31, e_ex32, e_add, e_sub, e_mul, e_quo, e_rem, e_and, e_or, e_xor, e_shl, e_shr, e_eql, e_neq, e_lss, e_leq, e_gtr, e_geq, e_beq, e_bne, e_peq1, e_peq2, e_pne1, e_pne2, e_zeq1, e_zeq2, e_zne1, e_zne2, e_feq1, e_fne1, e_feq2, e_fne2, e_seq, e_sne, e_ta1, e_ta2, Nat.zero_add, Nat.add_zero, Bool.not_true, Bool.not_false]
  refine ld1_r rr2 rfl ?_
  refine a2.num (by simp) hr1 fun w3 v3 a3 k3 => ?_
  have r3 := k3 _ _ _ rr2 (by decide)
  try simp only [e_fd, e_nck, e_pkt, e_pkf, e_gdtt, e_gdtf, e_gdft, e_gdff, e_ift, e_iff, e_not, e_ln, e_lnT, e_cp, e_cvi, e_ex20, e_ex21, e_ex30, e_ex31, e_ex32, e_add, e_sub, e_mul, e_quo, e_rem, e_and, e_or, e_xor, e_shl, e_shr, e_eql, e_neq, e_lss, e_leq, e_gtr, e_geq, e_beq, e_bne, e_peq1, e_peq2, e_pne1, e_pne2, e_zeq1, e_zeq2, e_zne1, e_zne2, e_feq1, e_fne1, e_feq2, e_fne2, e_seq, e_sne, e_ta1, e_ta2, Nat.zero_add, Nat.add_zero, Bool.not_true, Bool.not_false]
  refine ld1_r r3 rfl ?_
  refine a3.num (by simp only [List.length_append, List.length_singleton]; omega) hN.seq fun w4 v4 a4 k4 => ?_
  have r4 := k4 _ _ _ r3 (by decide)
  try simp only [e_fd, e_nck, e_pkt, e_pkf, e_gdtt, e_gdtf, e_gdft, e_gdff, e_ift, e_iff, e_not, e_ln, e_lnT, e_cp, e_cvi, e_ex20, e_ex21, e_ex30, e_ex31, e_ex32, e_add, e_sub, e_mul, e_quo, e_rem, e_and, e_or, e_xor, e_shl, e_shr, e_eql, e_neq, e_lss, e_leq, e_gtr, e_geq, e_beq, e_bne, e_peq1, e_peq2, e_pne1, e_pne2, e_zeq1, e_zeq2, e_zne1, e_zne2, e_feq1, e_fne1, e_feq2, e_fne2, e_seq, e_sne, e_ta1, e_ta2, Nat.zero_add, Nat.add_zero, Bool.not_true, Bool.not_false]
  refine ld1_r r4 rfl ?_
  refine a4.num (by simp only [List.length_append, List.length_singleton]; omega) hN.now fun w5 v5 a5 k5 => ?_
  have r5 := k5 _ _ _ r4 (by decide)
  try simp only [e_fd, e_nck, e_pkt, e_pkf, e_gdtt, e_gdtf, e_gdft, e_gdff, e_ift, e_iff, e_not, e_ln, e_lnT, e_cp, e_cvi, e_ex20, e_ex21, e_ex30, e_ex31, e_ex32, e_add, e_sub, e_mul, e_quo, e_rem, e_and, e_or, e_xor, e_shl, e_shr, e_eql, e_neq, e_lss, e_leq, e_gtr, e_geq, e_beq, e_bne, e_peq1, e_peq2, e_pne1, e_pne2, e_zeq1, e_zeq2, e_zne1, e_zne2, e_feq1, e_fne1, e_feq2, e_fne2, e_seq, e_sne, e_ta1, e_ta2, Nat.zero_add, Nat.add_zero, Bool.not_true, Bool.not_false]
  refine ld1_r (v := rv) r5 rfl ?_
  refine hro.ln ?_
  refine a5.num (by simp only [List.length_append, List.length_singleton]; omega) ⟨by omega, by omega⟩ fun w6 v6 a6 k6 => ?_
  have r6 := k6 _ _ _ r5 (by decide)
  try simp only [e_fd, e_nck, e_pkt, e_pkf, e_gdtt, e_gdtf, e_gdft, e_gdff, e_ift, e_iff, e_not, e_ln, e_lnT, e_cp, e_cvi, e_ex20, e_ex21, e_ex30, e_ex31, e_ex32, e_add, e_sub, e_mul, e_quo, e_rem, e_and, e_or, e_xor, e_shl, e_shr, e_eql, e_neq, e_lss, e_leq, e_gtr, e_geq, e_beq, e_bne, e_peq1, e_peq2, e_pne1, e_pne2, e_zeq1, e_zeq2, e_zne1, e_zne2, e_feq1, e_fne1, e_feq2, e_fne2, e_seq, e_sne, e_ta1, e_ta2, Nat.zero_add, Nat.add_zero, Bool.not_true, Bool.not_false]
  refine ld1_r (v := rv) r6 rfl ?_
  refine hro.ln ?_
  obtain ⟨its, i1, i2, i3⟩ := hro2
  have hil : its.length = im.rs.length := by rw [← i1, List.length_map]
  have iti : ∀ (i : Nat) (h : i < its.length) (h2 : i < im.rs.length), its[i].1 = im.rs[i] := fun i h h2 => by
    have : (its.map (·.1))[i]? = im.rs[i]? := by rw [i1]
    rw [List.getElem?_map, List.getElem?_eq_getElem h, List.getElem?_eq_getElem h2] at this
    exact Option.some.inj this
  unfold s189_p10
  refine loop_n im.rs.length (fun i l w' => ∃ v', l = [P w.heap.size 0, v', rv, I (im.rs.length : Nat), I (i : Nat)] ∧ Ap w2 (some w1.heap.size) w' v' ([1] ++ uI im.rules ++ uI im.seq ++ uI im.now ++ uI (im.rs.length : Nat) ++ encRs (im.rs.take i)) ∧ RowK w6 w') ⟨v6, rfl, by simpa [encRs] using a6, RowK.refl⟩ ?_ ?_
  · rintro i l w7 hi ⟨v7, rfl, a7, k7⟩ B hB
    have hi2 : i < its.length := by omega
    have ei := iti i hi2 hi
    have hlg := i3 _ (List.getElem_mem hi2)
    have bl := encRs_len (rs := im.rs.take i) fun r hr => (hN.rs r (List.mem_of_mem_take hr)).ll
    rw [List.length_take] at bl
    rw [s189_p10_Fe]
    unfold s189_p9
    try simp only [e_fd, e_nck, e_pkt, e_pkf, e_gdtt, e_gdtf, e_gdft, e_gdff, e_ift, e_iff, e_not, e_ln, e_lnT, e_cp, e_cvi, e_ex20, e_ex21, e_ex30, e_ex31, e_ex32, e_add, e_sub, e_mul, e_quo, e_rem, e_and, e_or, e_xor, e_shl, e_shr, e_eql, e_neq, e_lss, e_leq, e_gtr, e_geq, e_beq, e_bne, e_peq1, e_peq2, e_pne1, e_pne2, e_zeq1, e_zeq2, e_zne1, e_zne2, e_feq1, e_fne1, e_feq2, e_fne2, e_seq, e_sne, e_ta1, e_ta2, Nat.zero_add, Nat.add_zero, Bool.not_true, Bool.not_false]
    rw [dlt hi]
    try simp only [e_fd, e_nck, e_pkt, e_pkf, e_gdtt, e_gdtf, e_gdft, e_gdff, e_ift, e_iff, e_not, e_ln, e_lnT, e_cp, e_cvi, e_ex20, e_ex21, e_ex30, e_ex31, e_ex32, e_add, e_sub, e_mul, e_quo, e_rem, e_and, e_or, e_xor, e_shl, e_shr, e_eql, e_neq, e_lss, e_leq, e_gtr, e_geq, e_beq, e_bne, e_peq1, e_peq2, e_pne1, e_pne2, e_zeq1, e_zeq2, e_zne1, e_zne2, e_feq1, e_fne1, e_feq2, e_fne2, e_seq, e_sne, e_ta1, e_ta2, Nat.zero_add, Nat.add_zero, Bool.not_true, Bool.not_false]
    refine each_r rfl (i2.kp a7.kp fun b hb e => hF2 b hb e) hi2 (rC_len _) (rC_sc hlg.scal) fun w8 r8 hk8 hz8 => ?_
    generalize its[i] = p at ei hlg r8
    obtain ⟨rr, lvv⟩ := p
    simp only at ei hlg
    subst ei
    refine ldn_r r8 (show 0 + 7 ≤ 7 by decide) ?_
    refine appRec_ok (r := im.rs[i]) (lv := lvv) (a7.none hk8) (by simp only [List.length_append, List.length_singleton]; omega) hlg hF2 (hN.rs _ (List.getElem_mem hi)) fun w9 v9 a9 k9 => ?_
    try simp only [e_fd, e_nck, e_pkt, e_pkf, e_gdtt, e_gdtf, e_gdft, e_gdff, e_ift, e_iff, e_not, e_ln, e_lnT, e_cp, e_cvi, e_ex20, e_ex21, e_ex30, e_ex31, e_ex32, e_add, e_sub, e_mul, e_quo, e_rem, e_and, e_or, e_xor, e_shl, e_shr, e_eql, e_neq, e_lss, e_leq, e_gtr, e_geq, e_beq, e_bne, e_peq1, e_peq2, e_pne1, e_pne2, e_zeq1, e_zeq2, e_zne1, e_zne2, e_feq1, e_fne1, e_feq2, e_fne2, e_seq, e_sne, e_ta1, e_ta2, Nat.zero_add, Nat.add_zero, Bool.not_true, Bool.not_false]
    rw [inc i (by omega)]
    refine hB _ w9 ⟨v9, rfl, ?_, k7.trans ((RowK.none hk8).trans k9)⟩
    rw [List.take_succ_eq_append_getElem hi, encRs_app, show encRs [im.rs[i]] = encRec im.rs[i] by simp [encRs], ← List.append_assoc]
    exact a9
  · rintro l w7 ⟨v7, rfl, a7, k7⟩ B
    have r7 := k7 _ _ _ r6 (by decide)
    have bl := encRs_len (rs := im.rs) fun r hr => (hN.rs r hr).ll
    have h5 := uI_len (im.ls.length : Nat)
    rw [s189_p10_Fe]
    unfold s189_p9
    try simp only [e_fd, e_nck, e_pkt, e_pkf, e_gdtt, e_gdtf, e_gdft, e_gdff, e_ift, e_iff, e_not, e_ln, e_lnT, e_cp, e_cvi, e_ex20, e_ex21, e_ex30, e_ex31, e_ex32, e_add, e_sub, e_mul, e_quo, e_rem, e_and, e_or, e_xor, e_shl, e_shr, e_eql, e_neq, e_lss, e_leq, e_gtr, e_geq, e_beq, e_bne, e_peq1, e_peq2, e_pne1, e_pne2, e_zeq1, e_zeq2, e_zne1, e_zne2, e_feq1, e_fne1, e_feq2, e_fne2, e_seq, e_sne, e_ta1, e_ta2, Nat.zero_add, Nat.add_zero, Bool.not_true, Bool.not_false]
    rw [dnlt]
    try simp only [e_fd, e_nck, e_pkt, e_pkf, e_gdtt, e_gdtf, e_gdft, e_gdff, e_ift, e_iff, e_not, e_ln, e_lnT, e_cp, e_cvi, e_ex20, e_ex21, e_ex30, e_ex31, e_ex32, e_add, e_sub, e_mul, e_quo, e_rem, e_and, e_or, e_xor, e_shl, e_shr, e_eql, e_neq, e_lss, e_leq, e_gtr, e_geq, e_beq, e_bne, e_peq1, e_peq2, e_pne1, e_pne2, e_zeq1, e_zeq2, e_zne1, e_zne2, e_feq1, e_fne1, e_feq2, e_fne2, e_seq, e_sne, e_ta1, e_ta2, Nat.zero_add, Nat.add_zero, Bool.not_true, Bool.not_false]
    rw [List.take_length] at a7
    unfold s189_p8
    obtain ⟨lvs, l1, l2, l3⟩ := id hli2
    have lnl : ∀ {w' : World} (X : Value → World → Prop), X (I (im.ls.length : Nat)) w' → lnS lv X w' := fun X hX => l1.ln (by rw [l2]; exact hX)
    try simp only [e_fd, e_nck, e_pkt, e_pkf, e_gdtt, e_gdtf, e_gdft, e_gdff, e_ift, e_iff, e_not, e_ln, e_lnT, e_cp, e_cvi, e_ex20, e_ex21, e_ex30, e_ex31, e_ex32, e_add, e_sub, e_mul, e_quo, e_rem, e_and, e_or, e_xor, e_shl, e_shr, e_eql, e_neq, e_lss, e_leq, e_gtr, e_geq, e_beq, e_bne, e_peq1, e_peq2, e_pne1, e_pne2, e_zeq1, e_zeq2, e_zne1, e_zne2, e_feq1, e_fne1, e_feq2, e_fne2, e_seq, e_sne, e_ta1, e_ta2, Nat.zero_add, Nat.add_zero, Bool.not_true, Bool.not_false]
    refine ld1_r (v := lv) r7 rfl ?_
    refine lnl _ ?_
    refine a7.num (by simp only [List.length_append, List.length_singleton]; omega) ⟨by omega, by omega⟩ fun w8 v8 a8 k8 => ?_
    have r8 := k8 _ _ _ r7 (by decide)
    try simp only [e_fd, e_nck, e_pkt, e_pkf, e_gdtt, e_gdtf, e_gdft, e_gdff, e_ift, e_iff, e_not, e_ln, e_lnT, e_cp, e_cvi, e_ex20, e_ex21, e_ex30, e_ex31, e_ex32, e_add, e_sub, e_mul, e_quo, e_rem, e_and, e_or, e_xor, e_shl, e_shr, e_eql, e_neq, e_lss, e_leq, e_gtr, e_geq, e_beq, e_bne, e_peq1, e_peq2, e_pne1, e_pne2, e_zeq1, e_zeq2, e_zne1, e_zne2, e_feq1, e_fne1, e_feq2, e_fne2, e_seq, e_sne, e_ta1, e_ta2, Nat.zero_add, Nat.add_zero, Bool.not_true, Bool.not_false]
    refine ld1_r (v := lv) r8 rfl ?_
    refine lnl _ ?_
    refine encL_ok a8 (by simp only [List.length_append, List.length_singleton]; omega) hli2 hF2 hN.ids hlen hls fun w9 v9 a9 => ?_
    exact fin w9 v9 a9
end
end Go.Proofs.Qxb6500896aGreat
