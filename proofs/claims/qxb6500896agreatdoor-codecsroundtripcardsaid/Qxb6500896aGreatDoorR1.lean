import Derived.Test.Qxb6500896aGreatDoorK78
import Derived.Test.Qxb6500896aGreatDoorK82
namespace Go.Proofs.Qxb6500896aGreatDoor
open Go.Sh Go.RowKit
set_option linter.unusedVariables false
set_option linter.unusedSimpArgs false

/-! ### a list of return windows is read -/
def rIssN : Nat → RS → List Iss × RS
  | 0, s => ([], s)
  | n + 1, s => (⟨((rNum s).1 : Nat), ((rNum (rNum s).2).1 : Nat)⟩ :: (rIssN n (rNum (rNum s).2).2).1, (rIssN n (rNum (rNum s).2).2).2)
def rIss (s : RS) : List Iss × RS := if (rCount 2 s).2.2 = true ∨ (rCount 2 s).1 = 0 then ([], (rCount 2 s).2) else rIssN (rCount 2 s).1 (rCount 2 s).2
def iss0 : Iss := ⟨0, 0⟩
section
variable {F S : Nat → Prop} {w w' : World} {v : Value} {rb : Nat} {s : RS} {K : Value → World → Prop}
theorem riss_ok (h : Rd F w rb s) (hsl : s.1.length ≤ 1000000000) (hF : ∀ b, F b → b < w.heap.size) (hK : ∀ w' v', Rd F w' rb (rIss s).2 → Ar isC2 2 (Nb w w') w' v' (rIss s).1 → Kp (fun b => b = rb) w w' → K v' w') : cl Tryz.prog 44 #[P rb 0] K w := by
  apply c44
  unfold s44_p4
  refine rcount_ok (k := 2) (by decide) (by decide) h fun w1 r1 hk1 => ?_
  have hup := rUp_v (s.1.length / 2) s
  unfold rIss at hK
  obtain ⟨n, hn⟩ : ∃ n, (rCount 2 s).1 = n := ⟨_, rfl⟩
  obtain ⟨s1, hs1⟩ : ∃ s1, (rCount 2 s).2 = s1 := ⟨_, rfl⟩
  have hnl : n ≤ s.1.length := by rw [← hn]; unfold rCount; have := Nat.div_le_self s.1.length 2; omega
  rw [hn] at hK ⊢
  rw [hs1] at hK r1
  obtain ⟨bv, pre, rr, _⟩ := id r1
  try simp only [e_fd, e_nck, e_pkt, e_pkf, e_gdtt, e_gdtf, e_gdft, e_gdff, e_ift, e_iff, e_not, e_ln, e_lnT, e_cp, e_cvi, e_ex20, e_ex21, e_ex30, e_ex31, e_ex32, e_add, e_sub, e_mul, e_quo, e_rem, e_and, e_or, e_xor, e_shl, e_shr, e_eql, e_neq, e_lss, e_leq, e_gtr, e_geq, e_beq, e_bne, e_peq1, e_peq2, e_pne1, e_pne2, e_zeq1, e_zeq2, e_zne1, e_zne2, e_feq1, e_fne1, e_feq2, e_fne2, e_seq, e_sne, e_ta1, e_ta2, Nat.zero_add, Nat.add_zero, Bool.not_true, Bool.not_false]
  refine ld1_r rr rfl ?_
  by_cases hc : s1.2 = true ∨ n = 0
  · rw [if_pos hc] at hK
    have fin : K nilS w1 := hK w1 nilS r1 Ar.nil hk1
    cases hb : s1.2 with
    | true =>
      try simp only [e_fd, e_nck, e_pkt, e_pkf, e_gdtt, e_gdtf, e_gdft, e_gdff, e_ift, e_iff, e_not, e_ln, e_lnT, e_cp, e_cvi, e_ex20, e_ex21, e_ex30, e_ex31, e_ex32, e_add, e_sub, e_mul, e_quo, e_rem, e_and, e_or, e_xor, e_shl, e_shr, e_eql, e_neq, e_lss, e_leq, e_gtr, e_geq, e_beq, e_bne, e_peq1, e_peq2, e_pne1, e_pne2, e_zeq1, e_zeq2, e_zne1, e_zne2, e_feq1, e_fne1, e_feq2, e_fne2, e_seq, e_sne, e_ta1, e_ta2, Nat.zero_add, Nat.add_zero, Bool.not_true, Bool.not_false]
      exact fin
    | false =>
      have h0 : n = 0 := by
        rcases hc with q | q
        · rw [hb] at q; cases q
        · exact q
      have e1 : (((n : Nat) : Int) == 0) = true := by rw [h0]; rfl
      simp only [e1, e_fd, e_nck, e_pkt, e_pkf, e_gdtt, e_gdtf, e_gdft, e_gdff, e_ift, e_iff, e_not, e_ln, e_lnT, e_cp, e_cvi, e_ex20, e_ex21, e_ex30, e_ex31, e_ex32, e_add, e_sub, e_mul, e_quo, e_rem, e_and, e_or, e_xor, e_shl, e_shr, e_eql, e_neq, e_lss, e_leq, e_gtr, e_geq, e_beq, e_bne, e_peq1, e_peq2, e_pne1, e_pne2, e_zeq1, e_zeq2, e_zne1, e_zne2, e_feq1, e_fne1, e_feq2, e_fne2, e_seq, e_sne, e_ta1, e_ta2, Nat.zero_add, Nat.add_zero, Bool.not_true, Bool.not_false]
      exact fin
  · rw [if_neg hc] at hK
    have hb : s1.2 = false := by
      cases hb : s1.2 with
      | true => exact absurd (.inl hb) hc
      | false => rfl
    have h0 : n ≠ 0 := fun q => hc (.inr q)
    have e1 : (((n : Nat) : Int) == 0) = false := by rw [beq_eq_false_iff_ne]; omega
    rw [hb]
    simp only [e1, e_fd, e_nck, e_pkt, e_pkf, e_gdtt, e_gdtf, e_gdft, e_gdff, e_ift, e_iff, e_not, e_ln, e_lnT, e_cp, e_cvi, e_ex20, e_ex21, e_ex30, e_ex31, e_ex32, e_add, e_sub, e_mul, e_quo, e_rem, e_and, e_or, e_xor, e_shl, e_shr, e_eql, e_neq, e_lss, e_leq, e_gtr, e_geq, e_beq, e_bne, e_peq1, e_peq2, e_pne1, e_pne2, e_zeq1, e_zeq2, e_zne1, e_zne2, e_feq1, e_fne1, e_feq2, e_fne2, e_seq, e_sne, e_ta1, e_ta2, Nat.zero_add, Nat.add_zero, Bool.not_true, Bool.not_false]
    refine mks_n (f := isC2) (k := 2) (z0 := iss0) rfl rfl (by decide) (by omega) (by omega) fun w2 s2 hk2 hz2 => ?_
    try simp only [e_fd, e_nck, e_pkt, e_pkf, e_gdtt, e_gdtf, e_gdft, e_gdff, e_ift, e_iff, e_not, e_ln, e_lnT, e_cp, e_cvi, e_ex20, e_ex21, e_ex30, e_ex31, e_ex32, e_add, e_sub, e_mul, e_quo, e_rem, e_and, e_or, e_xor, e_shl, e_shr, e_eql, e_neq, e_lss, e_leq, e_gtr, e_geq, e_beq, e_bne, e_peq1, e_peq2, e_pne1, e_pne2, e_zeq1, e_zeq2, e_zne1, e_zne2, e_feq1, e_fne1, e_feq2, e_fne2, e_seq, e_sne, e_ta1, e_ta2, Nat.zero_add, Nat.add_zero, Bool.not_true, Bool.not_false]
    have sz1 := hk1.size
    have rlt := r1.lt
    have hF2 : ∀ b, F b → ¬ b = w1.heap.size := fun b hb => by have := hF b hb; omega
    unfold s44_p3
    refine loop_n n (fun i l w' => ∃ done si, l = [P rb 0, .slice (some ⟨w1.heap.size, 0, none⟩) n n, I (n : Nat), I (i : Nat)] ∧ Rd F w' rb si ∧ done.length = i ∧ Sl isC2 2 w' 148 (some w1.heap.size) (.slice (some ⟨w1.heap.size, 0, none⟩) n n) (done ++ List.replicate (n - i) iss0)
      ∧ rIssN n s1 = (done ++ (rIssN (n - i) si).1, (rIssN (n - i) si).2) ∧ Kp (fun b => b = rb ∨ b = w1.heap.size) w2 w') ⟨[], s1, rfl, r1.kp' hk2, rfl, by simpa using s2, rfl, Kp.refl _ _⟩ ?_ ?_
    · rintro i l w3 hi ⟨done, si, rfl, r3, hd, s3, he, hk3⟩ B hB
      rw [s44_p3_Fe]
      unfold s44_p2
      try simp only [e_fd, e_nck, e_pkt, e_pkf, e_gdtt, e_gdtf, e_gdft, e_gdff, e_ift, e_iff, e_not, e_ln, e_lnT, e_cp, e_cvi, e_ex20, e_ex21, e_ex30, e_ex31, e_ex32, e_add, e_sub, e_mul, e_quo, e_rem, e_and, e_or, e_xor, e_shl, e_shr, e_eql, e_neq, e_lss, e_leq, e_gtr, e_geq, e_beq, e_bne, e_peq1, e_peq2, e_pne1, e_pne2, e_zeq1, e_zeq2, e_zne1, e_zne2, e_feq1, e_fne1, e_feq2, e_fne2, e_seq, e_sne, e_ta1, e_ta2, Nat.zero_add, Nat.add_zero, Bool.not_true, Bool.not_false]
      rw [dlt hi]
      try simp only [e_fd, e_nck, e_pkt, e_pkf, e_gdtt, e_gdtf, e_gdft, e_gdff, e_ift, e_iff, e_not, e_ln, e_lnT, e_cp, e_cvi, e_ex20, e_ex21, e_ex30, e_ex31, e_ex32, e_add, e_sub, e_mul, e_quo, e_rem, e_and, e_or, e_xor, e_shl, e_shr, e_eql, e_neq, e_lss, e_leq, e_gtr, e_geq, e_beq, e_bne, e_peq1, e_peq2, e_pne1, e_pne2, e_zeq1, e_zeq2, e_zne1, e_zne2, e_feq1, e_fne1, e_feq2, e_fne2, e_seq, e_sne, e_ta1, e_ta2, Nat.zero_add, Nat.add_zero, Bool.not_true, Bool.not_false]
      refine rnum_ok r3 fun w4 r4 hk4 => ?_
      have n4 : ∀ b, (some w1.heap.size : Option Nat) = some b → ¬ b = rb := fun b e q => by cases e; omega
      have s4 := s3.kp hk4 n4
      have hlen : i < (done ++ List.replicate (n - i) iss0).length := by rw [List.length_append, List.length_replicate]; omega
      refine sl_ixp s4 hlen ?_
      try simp only [e_fd, e_nck, e_pkt, e_pkf, e_gdtt, e_gdtf, e_gdft, e_gdff, e_ift, e_iff, e_not, e_ln, e_lnT, e_cp, e_cvi, e_ex20, e_ex21, e_ex30, e_ex31, e_ex32, e_add, e_sub, e_mul, e_quo, e_rem, e_and, e_or, e_xor, e_shl, e_shr, e_eql, e_neq, e_lss, e_leq, e_gtr, e_geq, e_beq, e_bne, e_peq1, e_peq2, e_pne1, e_pne2, e_zeq1, e_zeq2, e_zne1, e_zne2, e_feq1, e_fne1, e_feq2, e_fne2, e_seq, e_sne, e_ta1, e_ta2, Nat.zero_add, Nat.add_zero, Bool.not_true, Bool.not_false]
      refine sl_upd s4 isC2_len (i := i) (j := 0) (y := ⟨((rNum si).1 : Nat), 0⟩) hlen (by decide) rfl ?_ fun w5 s5 hk5 hz5 => ?_
      · rw [List.getElem_append_right (by omega), List.getElem_replicate]; rfl
      refine rnum_ok (r4.kp hk5 hF2 (by omega)) fun w6 r6 hk6 => ?_
      have s6 := s5.kp hk6 n4
      refine sl_ixp s6 (by rw [List.length_set]; exact hlen) ?_
      try simp only [e_fd, e_nck, e_pkt, e_pkf, e_gdtt, e_gdtf, e_gdft, e_gdff, e_ift, e_iff, e_not, e_ln, e_lnT, e_cp, e_cvi, e_ex20, e_ex21, e_ex30, e_ex31, e_ex32, e_add, e_sub, e_mul, e_quo, e_rem, e_and, e_or, e_xor, e_shl, e_shr, e_eql, e_neq, e_lss, e_leq, e_gtr, e_geq, e_beq, e_bne, e_peq1, e_peq2, e_pne1, e_pne2, e_zeq1, e_zeq2, e_zne1, e_zne2, e_feq1, e_fne1, e_feq2, e_fne2, e_seq, e_sne, e_ta1, e_ta2, Nat.zero_add, Nat.add_zero, Bool.not_true, Bool.not_false]
      refine sl_upd s6 isC2_len (i := i) (j := 1) (y := ⟨((rNum si).1 : Nat), ((rNum (rNum si).2).1 : Nat)⟩) (by rw [List.length_set]; exact hlen) (by decide) rfl ?_ fun w7 s7 hk7 hz7 => ?_
      · rw [List.getElem_set_self]; rfl
      rw [inc i (by omega)]
      refine hB _ w7 ⟨done ++ [⟨((rNum si).1 : Nat), ((rNum (rNum si).2).1 : Nat)⟩], (rNum (rNum si).2).2, rfl, r6.kp hk7 hF2 (by omega), by rw [List.length_append, hd]; rfl, ?_, ?_, ?_⟩
      · rw [List.set_set, List.set_append_right _ _ (by omega), hd, Nat.sub_self, show n - i = (n - (i + 1)) + 1 by omega, List.replicate_succ, List.set_cons_zero] at s7
        rw [List.append_assoc]
        exact s7
      · rw [he, show n - i = (n - (i + 1)) + 1 by omega, rIssN, List.append_assoc]
        rfl
      · refine (((hk3.trans (hk4.mono fun b _ q => .inl q)).trans (hk5.mono fun b _ q => .inr q)).trans (hk6.mono fun b _ q => .inl q)).trans (hk7.mono fun b _ q => .inr q)
    · rintro l w3 ⟨done, si, rfl, r3, hd, s3, he, hk3⟩ B
      rw [s44_p3_Fe]
      unfold s44_p2
      try simp only [e_fd, e_nck, e_pkt, e_pkf, e_gdtt, e_gdtf, e_gdft, e_gdff, e_ift, e_iff, e_not, e_ln, e_lnT, e_cp, e_cvi, e_ex20, e_ex21, e_ex30, e_ex31, e_ex32, e_add, e_sub, e_mul, e_quo, e_rem, e_and, e_or, e_xor, e_shl, e_shr, e_eql, e_neq, e_lss, e_leq, e_gtr, e_geq, e_beq, e_bne, e_peq1, e_peq2, e_pne1, e_pne2, e_zeq1, e_zeq2, e_zne1, e_zne2, e_feq1, e_fne1, e_feq2, e_fne2, e_seq, e_sne, e_ta1, e_ta2, Nat.zero_add, Nat.add_zero, Bool.not_true, Bool.not_false]
      rw [dnlt]
      try simp only [e_fd, e_nck, e_pkt, e_pkf, e_gdtt, e_gdtf, e_gdft, e_gdff, e_ift, e_iff, e_not, e_ln, e_lnT, e_cp, e_cvi, e_ex20, e_ex21, e_ex30, e_ex31, e_ex32, e_add, e_sub, e_mul, e_quo, e_rem, e_and, e_or, e_xor, e_shl, e_shr, e_eql, e_neq, e_lss, e_leq, e_gtr, e_geq, e_beq, e_bne, e_peq1, e_peq2, e_pne1, e_pne2, e_zeq1, e_zeq2, e_zne1, e_zne2, e_feq1, e_fne1, e_feq2, e_fne2, e_seq, e_sne, e_ta1, e_ta2, Nat.zero_add, Nat.add_zero, Bool.not_true, Bool.not_false]
      unfold s44_p1
      rw [Nat.sub_self, rIssN, List.append_nil] at he
      rw [Nat.sub_self, List.replicate_zero, List.append_nil] at s3
      rw [he] at hK
      have sz3 := hk3.size
      refine hK w3 _ r3 ?_ ?_
      · refine s3.ar isC2_len (show done.length ≤ _ by omega) fun b e => ?_
        cases e
        exact ⟨by omega, by omega⟩
      · refine (hk1.trans hk2.none).then hk3 fun b hb q => ?_
        rcases q with q | q
        · exact q
        · omega
end
end Go.Proofs.Qxb6500896aGreatDoor
