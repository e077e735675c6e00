import Derived.Test.Qxb6500896aGreatDoorK44
namespace Go.Proofs.Qxb6500896aGreatDoor
open Go.Sh Go.RowKit
set_option linter.unusedVariables false
set_option linter.unusedSimpArgs false

def rRecsN : Nat → RS → List Rec × RS
  | 0, s => ([], s)
  | n + 1, s => ((rRec s).1 :: (rRecsN n (rRec s).2).1, (rRecsN n (rRec s).2).2)
def rRecs (s : RS) : List Rec × RS := if (rCount 7 s).2.2 = true ∨ (rCount 7 s).1 = 0 then ([], (rCount 7 s).2) else rRecsN (rCount 7 s).1 (rCount 7 s).2
section
variable {α : Type} {f : α → List Value} {k : Nat} {w w' : World} {v : Value} {xs : List α} {e : TypeId} {b : Nat}
theorem rows_put (hk : ∀ x, (f x).length = k) {y : α} : ∀ (xs : List α) (i : Nat) (junk : List Value), i < xs.length → rows f (xs.set i y) ++ junk = (rows f xs ++ junk).take (i * k) ++ (f y ++ (rows f xs ++ junk).drop (i * k + k))
  | [], i, junk, h => by simp at h
  | a :: xs, 0, junk, h => by
    rw [List.set_cons_zero, rows_cons, rows_cons, Nat.zero_mul, List.take_zero, List.nil_append, Nat.zero_add, List.append_assoc, List.append_assoc, List.drop_left' (hk a)]
  | a :: xs, i + 1, junk, h => by
    have ih := rows_put hk (y := y) xs i junk (by simpa using h)
    rw [List.set_cons_succ, rows_cons, rows_cons, List.append_assoc, ih, List.append_assoc, show (i + 1) * k = k + i * k by rw [Nat.add_mul]; omega, show k + i * k + k = k + (i * k + k) by omega]
    rw [show k + i * k = (f a).length + i * k by rw [hk a], List.take_length_add_append, show k + (i * k + k) = (f a).length + (i * k + k) by rw [hk a], List.drop_length_add_append, List.append_assoc]
theorem sl_put (h : Sl f k w e (some b) v xs) (hk : ∀ x, (f x).length = k) {i : Nat} {y : α} {kk : World → Prop} (hi : i < xs.length) (hs : (f y).all scal = true)
    (hK : ∀ w', Sl f k w' e (some b) v (xs.set i y) → Kp (fun c => c = b) w w' → w'.heap.size = w.heap.size → kk w') : stn k (P b (i * k)) (.agg (f y).toArray) kk w := by
  obtain ⟨cap, junk, rfl, h1, h2, h3⟩ := h
  have hl : (rows f xs).length = xs.length * k := rows_length hk xs
  have hlt : i * k + k ≤ (rows f xs).length := by
    rw [hl]
    have : (i + 1) * k ≤ xs.length * k := Nat.mul_le_mul_right _ hi
    rw [Nat.add_mul] at this
    omega
  refine stn_r (cs := f y) h3 (hk y) (by rw [List.length_append]; omega) hs fun w1 r1 hk1 hz1 => ?_
  refine hK w1 ⟨cap, junk, by rw [List.length_set], by rw [List.length_set]; exact h1, by rw [List.length_set]; exact h2, ?_⟩ hk1 hz1
  rw [rows_put hk xs i junk hi]
  exact r1
end
section
variable {F S : Nat → Prop} {w w' : World} {v : Value} {rb : Nat} {s : RS} {K : Value → World → Prop}
theorem rrecs_ok (h : Rd F w rb s) (hsl : s.1.length ≤ 1000000000) (hF : ∀ b, F b → b < w.heap.size) (hK : ∀ w' v' rob its, Rd F w' rb (rRecs s).2 → its.map (·.1) = (rRecs s).1 → Sl rC 7 w' 66 rob v' its → (∀ b, rob = some b → Nb w w' b) → (∀ p ∈ its, Ar lC 2 (fun b => Nb w w' b ∧ rob ≠ some b) w' p.2 p.1.legs) → Kp (fun b => b = rb) w w' → K v' w') : cl Tryz.prog 46 #[P rb 0] K w := by
  apply c46
  unfold s46_p4
  refine rcount_ok (k := 7) (by decide) (by decide) h fun w1 r1 hk1 => ?_
  have hnl0 : (rCount 7 s).1 ≤ s.1.length / 7 := by unfold rCount; exact rUp_v _ _
  unfold rRecs at hK
  obtain ⟨n, hn⟩ : ∃ n, (rCount 7 s).1 = n := ⟨_, rfl⟩
  obtain ⟨s1, hs1⟩ : ∃ s1, (rCount 7 s).2 = s1 := ⟨_, rfl⟩
  have hnl : n ≤ s.1.length := by rw [← hn]; omega
  rw [hn] at hK ⊢
  rw [hs1] at hK r1
  obtain ⟨bv, pre, rr, _⟩ := id r1
  try simp only [e_fd, e_nck, e_pkt, e_pkf, e_gdtt, e_gdtf, e_gdft, e_gdff, e_ift, e_iff, e_not, e_ln, e_lnT, e_cp, e_cvi, e_ex20, e_ex21, e_ex30, e_ex31, e_ex32, e_add, e_sub, e_mul, e_quo, e_rem, e_and, e_or, e_xor, e_shl, e_shr, e_eql, e_neq, e_lss, e_leq, e_gtr, e_geq, e_beq, e_bne, e_peq1, e_peq2, e_pne1, e_pne2, e_zeq1, e_zeq2, e_zne1, e_zne2, e_feq1, e_fne1, e_feq2, e_fne2, e_seq, e_sne, e_ta1, e_ta2, Nat.zero_add, Nat.add_zero, Bool.not_true, Bool.not_false]
  refine ld1_r rr rfl ?_
  by_cases hc : s1.2 = true ∨ n = 0
  · rw [if_pos hc] at hK
    have fin : K nilS w1 := hK w1 nilS none [] r1 rfl ⟨rfl, rfl⟩ (fun b e => by cases e) (fun p hp => by cases hp) hk1
    cases hb : s1.2 with
    | true =>
      try simp only [e_fd, e_nck, e_pkt, e_pkf, e_gdtt, e_gdtf, e_gdft, e_gdff, e_ift, e_iff, e_not, e_ln, e_lnT, e_cp, e_cvi, e_ex20, e_ex21, e_ex30, e_ex31, e_ex32, e_add, e_sub, e_mul, e_quo, e_rem, e_and, e_or, e_xor, e_shl, e_shr, e_eql, e_neq, e_lss, e_leq, e_gtr, e_geq, e_beq, e_bne, e_peq1, e_peq2, e_pne1, e_pne2, e_zeq1, e_zeq2, e_zne1, e_zne2, e_feq1, e_fne1, e_feq2, e_fne2, e_seq, e_sne, e_ta1, e_ta2, Nat.zero_add, Nat.add_zero, Bool.not_true, Bool.not_false]
      exact fin
    | false =>
      have h0 : n = 0 := by
        rcases hc with q | q
        · rw [hb] at q; cases q
        · exact q
      have e1 : (((n : Nat) : Int) == 0) = true := by rw [h0]; rfl
      simp only [e1, e_fd, e_nck, e_pkt, e_pkf, e_gdtt, e_gdtf, e_gdft, e_gdff, e_ift, e_iff, e_not, e_ln, e_lnT, e_cp, e_cvi, e_ex20, e_ex21, e_ex30, e_ex31, e_ex32, e_add, e_sub, e_mul, e_quo, e_rem, e_and, e_or, e_xor, e_shl, e_shr, e_eql, e_neq, e_lss, e_leq, e_gtr, e_geq, e_beq, e_bne, e_peq1, e_peq2, e_pne1, e_pne2, e_zeq1, e_zeq2, e_zne1, e_zne2, e_feq1, e_fne1, e_feq2, e_fne2, e_seq, e_sne, e_ta1, e_ta2, Nat.zero_add, Nat.add_zero, Bool.not_true, Bool.not_false]
      exact fin
  · rw [if_neg hc] at hK
    have hb : s1.2 = false := by
      cases hb : s1.2 with
      | true => exact absurd (.inl hb) hc
      | false => rfl
    have h0 : n ≠ 0 := fun q => hc (.inr q)
    have e1 : (((n : Nat) : Int) == 0) = false := by rw [beq_eq_false_iff_ne]; omega
    rw [hb]
    simp only [e1, e_fd, e_nck, e_pkt, e_pkf, e_gdtt, e_gdtf, e_gdft, e_gdff, e_ift, e_iff, e_not, e_ln, e_lnT, e_cp, e_cvi, e_ex20, e_ex21, e_ex30, e_ex31, e_ex32, e_add, e_sub, e_mul, e_quo, e_rem, e_and, e_or, e_xor, e_shl, e_shr, e_eql, e_neq, e_lss, e_leq, e_gtr, e_geq, e_beq, e_bne, e_peq1, e_peq2, e_pne1, e_pne2, e_zeq1, e_zeq2, e_zne1, e_zne2, e_feq1, e_fne1, e_feq2, e_fne2, e_seq, e_sne, e_ta1, e_ta2, Nat.zero_add, Nat.add_zero, Bool.not_true, Bool.not_false]
    refine mks_n (f := rC) (k := 7) (z0 := (zRec, nilS)) rfl rfl (by decide) (by omega) (by omega) fun w2 s2 hk2 hz2 => ?_
    try simp only [e_fd, e_nck, e_pkt, e_pkf, e_gdtt, e_gdtf, e_gdft, e_gdff, e_ift, e_iff, e_not, e_ln, e_lnT, e_cp, e_cvi, e_ex20, e_ex21, e_ex30, e_ex31, e_ex32, e_add, e_sub, e_mul, e_quo, e_rem, e_and, e_or, e_xor, e_shl, e_shr, e_eql, e_neq, e_lss, e_leq, e_gtr, e_geq, e_beq, e_bne, e_peq1, e_peq2, e_pne1, e_pne2, e_zeq1, e_zeq2, e_zne1, e_zne2, e_feq1, e_fne1, e_feq2, e_fne2, e_seq, e_sne, e_ta1, e_ta2, Nat.zero_add, Nat.add_zero, Bool.not_true, Bool.not_false]
    have sz1 := hk1.size
    have rlt := r1.lt
    have hF2 : ∀ b, F b → ¬ b = w1.heap.size := fun b hb => by have := hF b hb; omega
    unfold s46_p3
    refine loop_n n (fun i l w' => ∃ (done : List (Rec × Value)) (si : RS), l = [P rb 0, .slice (some ⟨w1.heap.size, 0, none⟩) n n, I (n : Nat), I (i : Nat)] ∧ Rd F w' rb si ∧ done.length = i ∧ Sl rC 7 w' 66 (some w1.heap.size) (.slice (some ⟨w1.heap.size, 0, none⟩) n n) (done ++ List.replicate (n - i) (zRec, nilS))
      ∧ (∀ p ∈ done, Ar lC 2 (Nb w2 w') w' p.2 p.1.legs) ∧ rRecsN n s1 = (done.map (·.1) ++ (rRecsN (n - i) si).1, (rRecsN (n - i) si).2) ∧ Kp (fun b => b = rb ∨ b = w1.heap.size) w2 w') ⟨[], s1, rfl, r1.kp' hk2, rfl, by simpa using s2, (fun p hp => by cases hp), rfl, Kp.refl _ _⟩ ?_ ?_
    · rintro i l w3 hi ⟨done, si, rfl, r3, hd, s3, hdl, he, hk3⟩ B hB
      have sz3 := hk3.size
      rw [s46_p3_Fe]
      unfold s46_p2
      try simp only [e_fd, e_nck, e_pkt, e_pkf, e_gdtt, e_gdtf, e_gdft, e_gdff, e_ift, e_iff, e_not, e_ln, e_lnT, e_cp, e_cvi, e_ex20, e_ex21, e_ex30, e_ex31, e_ex32, e_add, e_sub, e_mul, e_quo, e_rem, e_and, e_or, e_xor, e_shl, e_shr, e_eql, e_neq, e_lss, e_leq, e_gtr, e_geq, e_beq, e_bne, e_peq1, e_peq2, e_pne1, e_pne2, e_zeq1, e_zeq2, e_zne1, e_zne2, e_feq1, e_fne1, e_feq2, e_fne2, e_seq, e_sne, e_ta1, e_ta2, Nat.zero_add, Nat.add_zero, Bool.not_true, Bool.not_false]
      rw [dlt hi]
      try simp only [e_fd, e_nck, e_pkt, e_pkf, e_gdtt, e_gdtf, e_gdft, e_gdff, e_ift, e_iff, e_not, e_ln, e_lnT, e_cp, e_cvi, e_ex20, e_ex21, e_ex30, e_ex31, e_ex32, e_add, e_sub, e_mul, e_quo, e_rem, e_and, e_or, e_xor, e_shl, e_shr, e_eql, e_neq, e_lss, e_leq, e_gtr, e_geq, e_beq, e_bne, e_peq1, e_peq2, e_pne1, e_pne2, e_zeq1, e_zeq2, e_zne1, e_zne2, e_feq1, e_fne1, e_feq2, e_fne2, e_seq, e_sne, e_ta1, e_ta2, Nat.zero_add, Nat.add_zero, Bool.not_true, Bool.not_false]
      refine rrec_ok r3 (fun b q => by have := hF b q; omega) fun w4 lv r4 hl4 hk4 => ?_
      have n4 : ∀ b, (some w1.heap.size : Option Nat) = some b → ¬ b = rb := fun b e q => by cases e; omega
      have s4 := s3.kp hk4 n4
      have sz4 := hk4.size
      have hlen : i < (done ++ List.replicate (n - i) (zRec, nilS)).length := by rw [List.length_append, List.length_replicate]; omega
      refine sl_ixp s4 hlen ?_
      refine sl_put s4 rC_len (y := ((rRec si).1, lv)) hlen (rC_sc hl4.scal) fun w5 s5 hk5 hz5 => ?_
      try simp only [e_fd, e_nck, e_pkt, e_pkf, e_gdtt, e_gdtf, e_gdft, e_gdff, e_ift, e_iff, e_not, e_ln, e_lnT, e_cp, e_cvi, e_ex20, e_ex21, e_ex30, e_ex31, e_ex32, e_add, e_sub, e_mul, e_quo, e_rem, e_and, e_or, e_xor, e_shl, e_shr, e_eql, e_neq, e_lss, e_leq, e_gtr, e_geq, e_beq, e_bne, e_peq1, e_peq2, e_pne1, e_pne2, e_zeq1, e_zeq2, e_zne1, e_zne2, e_feq1, e_fne1, e_feq2, e_fne2, e_seq, e_sne, e_ta1, e_ta2, Nat.zero_add, Nat.add_zero, Bool.not_true, Bool.not_false]
      rw [inc i (by omega)]
      refine hB _ w5 ⟨done ++ [((rRec si).1, lv)], (rRec si).2, rfl, r4.kp hk5 hF2 (by omega), by rw [List.length_append, hd]; rfl, ?_, fun p hp => ?_, ?_, ?_⟩
      · rw [List.set_append_right _ _ (by omega), hd, Nat.sub_self, show n - i = (n - (i + 1)) + 1 by omega, List.replicate_succ, List.set_cons_zero] at s5
        rw [List.append_assoc]
        exact s5
      · rcases List.mem_append.1 hp with q | q
        · exact (((hdl p q).kp hk4 fun b hb (e : b = _) => by have := hb.1; omega).kp hk5 fun b hb (e : b = _) => by have := hb.1; omega).mono fun b hb => ⟨hb.1, by have := hb.2; omega⟩
        · have : p = ((rRec si).1, lv) := by simpa using q
          rw [this]
          exact (hl4.kp hk5 fun b hb (e : b = _) => by have := hb.1; omega).mono fun b hb => ⟨by have := hb.1; omega, by have := hb.2; omega⟩
      · rw [he, show n - i = (n - (i + 1)) + 1 by omega, rRecsN, List.map_append, List.append_assoc]
        rfl
      · exact (hk3.trans (hk4.mono fun b _ q => .inl q)).trans (hk5.mono fun b _ q => .inr q)
    · rintro l w3 ⟨done, si, rfl, r3, hd, s3, hdl, he, hk3⟩ B
      rw [s46_p3_Fe]
      unfold s46_p2
      try simp only [e_fd, e_nck, e_pkt, e_pkf, e_gdtt, e_gdtf, e_gdft, e_gdff, e_ift, e_iff, e_not, e_ln, e_lnT, e_cp, e_cvi, e_ex20, e_ex21, e_ex30, e_ex31, e_ex32, e_add, e_sub, e_mul, e_quo, e_rem, e_and, e_or, e_xor, e_shl, e_shr, e_eql, e_neq, e_lss, e_leq, e_gtr, e_geq, e_beq, e_bne, e_peq1, e_peq2, e_pne1, e_pne2, e_zeq1, e_zeq2, e_zne1, e_zne2, e_feq1, e_fne1, e_feq2, e_fne2, e_seq, e_sne, e_ta1, e_ta2, Nat.zero_add, Nat.add_zero, Bool.not_true, Bool.not_false]
      rw [dnlt]
      try simp only [e_fd, e_nck, e_pkt, e_pkf, e_gdtt, e_gdtf, e_gdft, e_gdff, e_ift, e_iff, e_not, e_ln, e_lnT, e_cp, e_cvi, e_ex20, e_ex21, e_ex30, e_ex31, e_ex32, e_add, e_sub, e_mul, e_quo, e_rem, e_and, e_or, e_xor, e_shl, e_shr, e_eql, e_neq, e_lss, e_leq, e_gtr, e_geq, e_beq, e_bne, e_peq1, e_peq2, e_pne1, e_pne2, e_zeq1, e_zeq2, e_zne1, e_zne2, e_feq1, e_fne1, e_feq2, e_fne2, e_seq, e_sne, e_ta1, e_ta2, Nat.zero_add, Nat.add_zero, Bool.not_true, Bool.not_false]
      unfold s46_p1
      rw [Nat.sub_self, rRecsN, List.append_nil] at he
      rw [Nat.sub_self, List.replicate_zero, List.append_nil] at s3
      rw [he] at hK
      have sz3 := hk3.size
      refine hK w3 _ _ done r3 rfl s3 (fun b e => ?_) (fun p hp => ?_) ?_
      · cases e
        exact ⟨by omega, by omega⟩
      · exact (hdl p hp).mono fun b hb => ⟨⟨by have := hb.1; omega, hb.2⟩, fun e => by cases e; have := hb.1; omega⟩
      · refine (hk1.trans hk2.none).then hk3 fun b hb q => ?_
        rcases q with q | q
        · exact q
        · omega
end
end Go.Proofs.Qxb6500896aGreatDoor
