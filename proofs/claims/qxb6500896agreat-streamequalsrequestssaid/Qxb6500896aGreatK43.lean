import Derived.Test.Qxb6500896aGreatK42
namespace Go.Proofs.Qxb6500896aGreat
open Go.Sh Go.RowKit
set_option linter.unusedVariables false
set_option linter.unusedSimpArgs false

def rCount (k : Nat) (s : RS) : Nat × RS := rUp (s.1.length / k) s
def rIdsN : Nat → RS → List Int × RS
  | 0, s => ([], s)
  | n + 1, s => (((rNum s).1 : Nat) :: (rIdsN n (rNum s).2).1, (rIdsN n (rNum s).2).2)
def rIds (s : RS) : List Int × RS := if (rCount 1 s).2.2 = true ∨ (rCount 1 s).1 = 0 then ([], (rCount 1 s).2) else rIdsN (rCount 1 s).1 (rCount 1 s).2
section
variable {F S : Nat → Prop} {w w' : World} {v : Value} {rb : Nat} {s : RS} {K : Value → World → Prop}
theorem rcount_ok {k : Nat} (hk : 0 < k) (hk2 : k ≤ 1000) (h : Rd F w rb s) (hK : RdK F w rb (rCount k s).2 (I ((rCount k s).1 : Nat)) K) : cl Tryz.prog 181 #[P rb 0, I (k : Nat)] K w := by
  have h0 := h
  obtain ⟨bv, pre, r, h1, h2, h3⟩ := h
  have hl := h1.len
  rw [List.length_append] at hl
  apply c181
  unfold s181_p3 s181_p2 s181_p2_d
  have kd : Kp Emp w (drw w) := kp_drw
  generalize drw w = w0 at kd ⊢
  have r0 := kd.row' r
  try simp only [e_fd, e_nck, e_pkt, e_pkf, e_gdtt, e_gdtf, e_gdft, e_gdff, e_ift, e_iff, e_not, e_ln, e_lnT, e_cp, e_cvi, e_ex20, e_ex21, e_ex30, e_ex31, e_ex32, e_add, e_sub, e_mul, e_quo, e_rem, e_and, e_or, e_xor, e_shl, e_shr, e_eql, e_neq, e_lss, e_leq, e_gtr, e_geq, e_beq, e_bne, e_peq1, e_peq2, e_pne1, e_pne2, e_zeq1, e_zeq2, e_zne1, e_zne2, e_feq1, e_fne1, e_feq2, e_fne2, e_seq, e_sne, e_ta1, e_ta2, Nat.zero_add, Nat.add_zero, Bool.not_true, Bool.not_false]
  refine ld1_r r0 rfl ?_
  refine h1.ln ?_
  try simp only [e_fd, e_nck, e_pkt, e_pkf, e_gdtt, e_gdtf, e_gdft, e_gdff, e_ift, e_iff, e_not, e_ln, e_lnT, e_cp, e_cvi, e_ex20, e_ex21, e_ex30, e_ex31, e_ex32, e_add, e_sub, e_mul, e_quo, e_rem, e_and, e_or, e_xor, e_shl, e_shr, e_eql, e_neq, e_lss, e_leq, e_gtr, e_geq, e_beq, e_bne, e_peq1, e_peq2, e_pne1, e_pne2, e_zeq1, e_zeq2, e_zne1, e_zne2, e_feq1, e_fne1, e_feq2, e_fne2, e_seq, e_sne, e_ta1, e_ta2, Nat.zero_add, Nat.add_zero, Bool.not_true, Bool.not_false]
  refine ld1_r r0 rfl ?_
  try simp only [e_fd, e_nck, e_pkt, e_pkf, e_gdtt, e_gdtf, e_gdft, e_gdff, e_ift, e_iff, e_not, e_ln, e_lnT, e_cp, e_cvi, e_ex20, e_ex21, e_ex30, e_ex31, e_ex32, e_add, e_sub, e_mul, e_quo, e_rem, e_and, e_or, e_xor, e_shl, e_shr, e_eql, e_neq, e_lss, e_leq, e_gtr, e_geq, e_beq, e_bne, e_peq1, e_peq2, e_pne1, e_pne2, e_zeq1, e_zeq2, e_zne1, e_zne2, e_feq1, e_fne1, e_feq2, e_fne2, e_seq, e_sne, e_ta1, e_ta2, Nat.zero_add, Nat.add_zero, Bool.not_true, Bool.not_false]
  rw [List.length_append, wrap64_id (n := ((pre.length + s.1.length : Nat) : Int) - ((pre.length : Nat) : Int)) (by omega) (by omega), show ((pre.length + s.1.length : Nat) : Int) - ((pre.length : Nat) : Int) = ((s.1.length : Nat) : Int) by omega, ← Int.ofNat_tdiv]
  have hq : s.1.length / k ≤ s.1.length := Nat.div_le_self _ _
  unfold rCount at hK
  generalize s.1.length / k = q at hq hK ⊢
  rw [wrap64_id (by omega) (by omega)]
  refine ⟨by omega, ?_⟩
  refine rup_ok (by omega) (h0.kp' kd) fun w1 r1 hk1 => ?_
  unfold s181_p1
  exact hK w1 r1 (kd.none.trans hk1)
theorem rids_ok (h : Rd F w rb s) (hsl : s.1.length ≤ 1000000000) (hF : ∀ b, F b → b < w.heap.size) (hK : ∀ w' v' ob, Rd F w' rb (rIds s).2 → Sl iC 1 w' 3 ob v' (rIds s).1 → (∀ b, ob = some b → Nb w w' b) → Kp (fun b => b = rb) w w' → K v' w') : cl Tryz.prog 135 #[P rb 0] K w := by
  apply c135
  unfold s135_p4
  refine rcount_ok (k := 1) (by decide) (by decide) h fun w1 r1 hk1 => ?_
  have hup := rUp_v (s.1.length / 1) s
  unfold rIds at hK
  obtain ⟨n, hn⟩ : ∃ n, (rCount 1 s).1 = n := ⟨_, rfl⟩
  obtain ⟨s1, hs1⟩ : ∃ s1, (rCount 1 s).2 = s1 := ⟨_, rfl⟩
  have hnl : n ≤ s.1.length := by rw [← hn]; unfold rCount; have := Nat.div_le_self s.1.length 1; omega
  rw [hn] at hK ⊢
  rw [hs1] at hK r1
  obtain ⟨bv, pre, rr, _⟩ := id r1
  try simp only [e_fd, e_nck, e_pkt, e_pkf, e_gdtt, e_gdtf, e_gdft, e_gdff, e_ift, e_iff, e_not, e_ln, e_lnT, e_cp, e_cvi, e_ex20, e_ex21, e_ex30, e_ex31, e_ex32, e_add, e_sub, e_mul, e_quo, e_rem, e_and, e_or, e_xor, e_shl, e_shr, e_eql, e_neq, e_lss, e_leq, e_gtr, e_geq, e_beq, e_bne, e_peq1, e_peq2, e_pne1, e_pne2, e_zeq1, e_zeq2, e_zne1, e_zne2, e_feq1, e_fne1, e_feq2, e_fne2, e_seq, e_sne, e_ta1, e_ta2, Nat.zero_add, Nat.add_zero, Bool.not_true, Bool.not_false]
  refine ld1_r rr rfl ?_
  by_cases hc : s1.2 = true ∨ n = 0
  · rw [if_pos hc] at hK
    have fin : K nilS w1 := hK w1 nilS none r1 ⟨rfl, rfl⟩ (fun b e => by cases e) hk1
    cases hb : s1.2 with
    | true =>
      try simp only [e_fd, e_nck, e_pkt, e_pkf, e_gdtt, e_gdtf, e_gdft, e_gdff, e_ift, e_iff, e_not, e_ln, e_lnT, e_cp, e_cvi, e_ex20, e_ex21, e_ex30, e_ex31, e_ex32, e_add, e_sub, e_mul, e_quo, e_rem, e_and, e_or, e_xor, e_shl, e_shr, e_eql, e_neq, e_lss, e_leq, e_gtr, e_geq, e_beq, e_bne, e_peq1, e_peq2, e_pne1, e_pne2, e_zeq1, e_zeq2, e_zne1, e_zne2, e_feq1, e_fne1, e_feq2, e_fne2, e_seq, e_sne, e_ta1, e_ta2, Nat.zero_add, Nat.add_zero, Bool.not_true, Bool.not_false]
      exact fin
    | false =>
      have h0 : n = 0 := by
        rcases hc with q | q
        · rw [hb] at q; cases q
        · exact q
      have e1 : (((n : Nat) : Int) == 0) = true := by rw [h0]; rfl
      simp only [e1, e_fd, e_nck, e_pkt, e_pkf, e_gdtt, e_gdtf, e_gdft, e_gdff, e_ift, e_iff, e_not, e_ln, e_lnT, e_cp, e_cvi, e_ex20, e_ex21, e_ex30, e_ex31, e_ex32, e_add, e_sub, e_mul, e_quo, e_rem, e_and, e_or, e_xor, e_shl, e_shr, e_eql, e_neq, e_lss, e_leq, e_gtr, e_geq, e_beq, e_bne, e_peq1, e_peq2, e_pne1, e_pne2, e_zeq1, e_zeq2, e_zne1, e_zne2, e_feq1, e_fne1, e_feq2, e_fne2, e_seq, e_sne, e_ta1, e_ta2, Nat.zero_add, Nat.add_zero, Bool.not_true, Bool.not_false]
      exact fin
  · rw [if_neg hc] at hK
    have hb : s1.2 = false := by
      cases hb : s1.2 with
      | true => exact absurd (.inl hb) hc
      | false => rfl
    have h0 : n ≠ 0 := fun q => hc (.inr q)
    have e1 : (((n : Nat) : Int) == 0) = false := by rw [beq_eq_false_iff_ne]; omega
    rw [hb]
    simp only [e1, e_fd, e_nck, e_pkt, e_pkf, e_gdtt, e_gdtf, e_gdft, e_gdff, e_ift, e_iff, e_not, e_ln, e_lnT, e_cp, e_cvi, e_ex20, e_ex21, e_ex30, e_ex31, e_ex32, e_add, e_sub, e_mul, e_quo, e_rem, e_and, e_or, e_xor, e_shl, e_shr, e_eql, e_neq, e_lss, e_leq, e_gtr, e_geq, e_beq, e_bne, e_peq1, e_peq2, e_pne1, e_pne2, e_zeq1, e_zeq2, e_zne1, e_zne2, e_feq1, e_fne1, e_feq2, e_fne2, e_seq, e_sne, e_ta1, e_ta2, Nat.zero_add, Nat.add_zero, Bool.not_true, Bool.not_false]
    refine mks_n (f := iC) (k := 1) (z0 := 0) rfl rfl (by decide) (by omega) (by omega) fun w2 s2 hk2 hz2 => ?_
    try simp only [e_fd, e_nck, e_pkt, e_pkf, e_gdtt, e_gdtf, e_gdft, e_gdff, e_ift, e_iff, e_not, e_ln, e_lnT, e_cp, e_cvi, e_ex20, e_ex21, e_ex30, e_ex31, e_ex32, e_add, e_sub, e_mul, e_quo, e_rem, e_and, e_or, e_xor, e_shl, e_shr, e_eql, e_neq, e_lss, e_leq, e_gtr, e_geq, e_beq, e_bne, e_peq1, e_peq2, e_pne1, e_pne2, e_zeq1, e_zeq2, e_zne1, e_zne2, e_feq1, e_fne1, e_feq2, e_fne2, e_seq, e_sne, e_ta1, e_ta2, Nat.zero_add, Nat.add_zero, Bool.not_true, Bool.not_false]
    have sz1 := hk1.size
    have rlt := r1.lt
    have hF2 : ∀ b, F b → ¬ b = w1.heap.size := fun b hb => by have := hF b hb; omega
    unfold s135_p3
    refine loop_n n (fun i l w' => ∃ done si, l = [P rb 0, .slice (some ⟨w1.heap.size, 0, none⟩) n n, I (n : Nat), I (i : Nat)] ∧ Rd F w' rb si ∧ done.length = i ∧ Sl iC 1 w' 3 (some w1.heap.size) (.slice (some ⟨w1.heap.size, 0, none⟩) n n) (done ++ List.replicate (n - i) 0)
      ∧ rIdsN n s1 = (done ++ (rIdsN (n - i) si).1, (rIdsN (n - i) si).2) ∧ Kp (fun b => b = rb ∨ b = w1.heap.size) w2 w') ⟨[], s1, rfl, r1.kp' hk2, rfl, by simpa using s2, rfl, Kp.refl _ _⟩ ?_ ?_
    · rintro i l w3 hi ⟨done, si, rfl, r3, hd, s3, he, hk3⟩ B hB
      rw [s135_p3_Fe]
      unfold s135_p2
      try simp only [e_fd, e_nck, e_pkt, e_pkf, e_gdtt, e_gdtf, e_gdft, e_gdff, e_ift, e_iff, e_not, e_ln, e_lnT, e_cp, e_cvi, e_ex20, e_ex21, e_ex30, e_ex31, e_ex32, e_add, e_sub, e_mul, e_quo, e_rem, e_and, e_or, e_xor, e_shl, e_shr, e_eql, e_neq, e_lss, e_leq, e_gtr, e_geq, e_beq, e_bne, e_peq1, e_peq2, e_pne1, e_pne2, e_zeq1, e_zeq2, e_zne1, e_zne2, e_feq1, e_fne1, e_feq2, e_fne2, e_seq, e_sne, e_ta1, e_ta2, Nat.zero_add, Nat.add_zero, Bool.not_true, Bool.not_false]
      rw [dlt hi]
      try simp only [e_fd, e_nck, e_pkt, e_pkf, e_gdtt, e_gdtf, e_gdft, e_gdff, e_ift, e_iff, e_not, e_ln, e_lnT, e_cp, e_cvi, e_ex20, e_ex21, e_ex30, e_ex31, e_ex32, e_add, e_sub, e_mul, e_quo, e_rem, e_and, e_or, e_xor, e_shl, e_shr, e_eql, e_neq, e_lss, e_leq, e_gtr, e_geq, e_beq, e_bne, e_peq1, e_peq2, e_pne1, e_pne2, e_zeq1, e_zeq2, e_zne1, e_zne2, e_feq1, e_fne1, e_feq2, e_fne2, e_seq, e_sne, e_ta1, e_ta2, Nat.zero_add, Nat.add_zero, Bool.not_true, Bool.not_false]
      refine rnum_ok r3 fun w4 r4 hk4 => ?_
      have n4 : ∀ b, (some w1.heap.size : Option Nat) = some b → ¬ b = rb := fun b e q => by cases e; omega
      have s4 := s3.kp hk4 n4
      have hlen : i < (done ++ List.replicate (n - i) (0 : Int)).length := by rw [List.length_append, List.length_replicate]; omega
      refine sl_ixp s4 hlen ?_
      refine sl_upd s4 iC_len (i := i) (j := 0) (y := ((rNum si).1 : Nat)) hlen (by decide) rfl ?_ fun w5 s5 hk5 hz5 => ?_
      · rw [List.getElem_append_right (by omega), List.getElem_replicate]; rfl
      try simp only [e_fd, e_nck, e_pkt, e_pkf, e_gdtt, e_gdtf, e_gdft, e_gdff, e_ift, e_iff, e_not, e_ln, e_lnT, e_cp, e_cvi, e_ex20, e_ex21, e_ex30, e_ex31, e_ex32, e_add, e_sub, e_mul, e_quo, e_rem, e_and, e_or, e_xor, e_shl, e_shr, e_eql, e_neq, e_lss, e_leq, e_gtr, e_geq, e_beq, e_bne, e_peq1, e_peq2, e_pne1, e_pne2, e_zeq1, e_zeq2, e_zne1, e_zne2, e_feq1, e_fne1, e_feq2, e_fne2, e_seq, e_sne, e_ta1, e_ta2, Nat.zero_add, Nat.add_zero, Bool.not_true, Bool.not_false]
      rw [inc i (by omega)]
      refine hB _ w5 ⟨done ++ [(((rNum si).1 : Nat) : Int)], (rNum si).2, rfl, r4.kp hk5 hF2 (by omega), by rw [List.length_append, hd]; rfl, ?_, ?_, ?_⟩
      · rw [List.set_append_right _ _ (by omega), hd, Nat.sub_self, show n - i = (n - (i + 1)) + 1 by omega, List.replicate_succ, List.set_cons_zero] at s5
        rw [List.append_assoc]
        exact s5
      · rw [he, show n - i = (n - (i + 1)) + 1 by omega, rIdsN, List.append_assoc]
        rfl
      · exact (hk3.trans (hk4.mono fun b _ q => .inl q)).trans (hk5.mono fun b _ q => .inr q)
    · rintro l w3 ⟨done, si, rfl, r3, hd, s3, he, hk3⟩ B
      rw [s135_p3_Fe]
      unfold s135_p2
      try simp only [e_fd, e_nck, e_pkt, e_pkf, e_gdtt, e_gdtf, e_gdft, e_gdff, e_ift, e_iff, e_not, e_ln, e_lnT, e_cp, e_cvi, e_ex20, e_ex21, e_ex30, e_ex31, e_ex32, e_add, e_sub, e_mul, e_quo, e_rem, e_and, e_or, e_xor, e_shl, e_shr, e_eql, e_neq, e_lss, e_leq, e_gtr, e_geq, e_beq, e_bne, e_peq1, e_peq2, e_pne1, e_pne2, e_zeq1, e_zeq2, e_zne1, e_zne2, e_feq1, e_fne1, e_feq2, e_fne2, e_seq, e_sne, e_ta1, e_ta2, Nat.zero_add, Nat.add_zero, Bool.not_true, Bool.not_false]
      rw [dnlt]
      try simp only [e_fd, e_nck, e_pkt, e_pkf, e_gdtt, e_gdtf, e_gdft, e_gdff, e_ift, e_iff, e_not, e_ln, e_lnT, e_cp, e_cvi, e_ex20, e_ex21, e_ex30, e_ex31, e_ex32, e_add, e_sub, e_mul, e_quo, e_rem, e_and, e_or, e_xor, e_shl, e_shr, e_eql, e_neq, e_lss, e_leq, e_gtr, e_geq, e_beq, e_bne, e_peq1, e_peq2, e_pne1, e_pne2, e_zeq1, e_zeq2, e_zne1, e_zne2, e_feq1, e_fne1, e_feq2, e_fne2, e_seq, e_sne, e_ta1, e_ta2, Nat.zero_add, Nat.add_zero, Bool.not_true, Bool.not_false]
      unfold s135_p1
      rw [Nat.sub_self, rIdsN, List.append_nil] at he
      rw [Nat.sub_self, List.replicate_zero, List.append_nil] at s3
      rw [he] at hK
      have sz3 := hk3.size
      refine hK w3 _ _ r3 s3 (fun b e => ?_) ?_
      · cases e
        exact ⟨by omega, by omega⟩
      · refine (hk1.trans hk2.none).then hk3 fun b hb q => ?_
        rcases q with q | q
        · exact q
        · omega
end
end Go.Proofs.Qxb6500896aGreat
