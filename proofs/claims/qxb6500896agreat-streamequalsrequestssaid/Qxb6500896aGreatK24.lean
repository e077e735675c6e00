import Derived.Test.Qxb6500896aGreatK23
namespace Go.Proofs.Qxb6500896aGreat
open Go.Sh Go.RowKit
set_option linter.unusedVariables false
set_option linter.unusedSimpArgs false

section
variable {α : Type} {f : α → List Value} {k : Nat} {w w' : World} {v : Value} {xs : List α} {e : TypeId} {b : Nat} {K : Value → World → Prop}
theorem rows_upd (hk : ∀ x, (f x).length = k) {y : α} {j : Nat} {x : Value} (hj : j < k) : ∀ (xs : List α) (i : Nat) (h : i < xs.length), f y = (f xs[i]).set j x → rows f (xs.set i y) = (rows f xs).set (i * k + j) x
  | [], i, h, _ => by simp at h
  | a :: xs, 0, h, hy => by
    rw [List.set_cons_zero, rows_cons, rows_cons, hy, Nat.zero_mul, Nat.zero_add, List.set_append_left _ _ (by rw [hk]; exact hj)]
    rfl
  | a :: xs, i + 1, h, hy => by
    rw [List.set_cons_succ, rows_cons, rows_cons, List.set_append_right _ _ (by rw [hk, Nat.add_mul]; omega), hk, show (i + 1) * k + j - k = i * k + j by rw [Nat.add_mul]; omega]
    rw [rows_upd hk hj xs i (by simpa using h) (by simpa using hy)]
theorem sl_ixp (h : Sl f k w e (some b) v xs) {i : Nat} (hi : i < xs.length) {q : IntKind} (hK : K (P b (i * k)) w') : ixs k v (.int q i) K w' := by
  obtain ⟨cap, junk, rfl, h1, h2, h3⟩ := h
  refine ⟨⟨by omega, by omega⟩, ?_⟩
  have e1 : ((i : Int)).toNat = i := by omega
  rw [e1, add_mk, Nat.zero_add]
  exact hK
theorem sl_upd (h : Sl f k w e (some b) v xs) (hk : ∀ x, (f x).length = k) {i j : Nat} {x : Value} {y : α} {kk : World → Prop} (hi : i < xs.length) (hj : j < k) (hx : scal x = true) (hy : f y = (f xs[i]).set j x)
    (hK : ∀ w', Sl f k w' e (some b) v (xs.set i y) → Kp (fun c => c = b) w w' → w'.heap.size = w.heap.size → kk w') : st1 (P b (i * k + j)) x kk w := by
  obtain ⟨cap, junk, rfl, h1, h2, h3⟩ := h
  have hl : (rows f xs).length = xs.length * k := rows_length hk xs
  have hlt : i * k + j < (rows f xs).length := by
    rw [hl]
    have : (i + 1) * k ≤ xs.length * k := Nat.mul_le_mul_right _ hi
    rw [Nat.add_mul] at this
    omega
  refine st1_r h3 (by rw [List.length_append]; omega) hx fun w1 r1 hk1 hz1 => ?_
  refine hK w1 ⟨cap, junk, by rw [List.length_set], by rw [List.length_set]; exact h1, by rw [List.length_set]; exact h2, ?_⟩ hk1 hz1
  rw [rows_upd hk hj xs i hi hy, ← List.set_append_left _ _ hlt]
  exact r1
theorem zrep_k {z : List Value} (hz : 0 < z.length) : zrep z z.length = z := by
  unfold zrep
  apply List.ext_getElem
  · simp
  · intro i h1 h2
    simp only [List.getElem_map, List.getElem_range, List.size_toArray]
    rw [Nat.mod_eq_of_lt h2]
    simp [h2]
theorem zrep_n {z : List Value} {z0 : α} (hz : f z0 = z) (h0 : 0 < z.length) : ∀ n : Nat, zrep z (n * z.length) = rows f (List.replicate n z0)
  | 0 => by rw [Nat.zero_mul]; rfl
  | n + 1 => by
    rw [List.replicate_succ, rows_cons, hz, ← zrep_n hz h0 n, show (n + 1) * z.length = z.length + n * z.length by rw [Nat.add_mul]; omega]
    have e1 : zrep z (z.length + n * z.length) = zrep z z.length ++ zrep z (n * z.length) := by
      unfold zrep
      rw [List.range_add, List.map_append, List.map_map]
      congr 1
      apply List.map_congr_left
      intro i _
      simp
    rw [e1, zrep_k h0]
theorem mks_n {z : List Value} {z0 : α} {by_ n : Nat} (hz : f z0 = z) (hk : z.length = k) (h0 : 0 < k) (hb : by_ * n ≤ 281474976710656) (hn : n ≤ 9223372036854775807)
    (hK : ∀ w1, Sl f k w1 e (some w.heap.size) (.slice (some ⟨w.heap.size, 0, none⟩) n n) (List.replicate n z0) → Kp Emp w w1 → w1.heap.size = w.heap.size + 1 → K (.slice (some ⟨w.heap.size, 0, none⟩) n n) w1) : mks e z by_ (.int .i64 (n : Nat)) (.int .i64 (n : Nat)) K w := by
  refine ⟨⟨by omega, by omega, ?_, by omega⟩, ?_⟩
  · have : ((by_ * n : Nat) : Int) ≤ 281474976710656 := by omega
    simpa using this
  · have e1 : ((n : Int)).toNat = n := by omega
    simp only [e1]
    refine hK _ ⟨n, [], by rw [List.length_replicate], by rw [List.length_replicate]; exact Nat.le_refl _, by simp, ?_⟩ (kp_alloc _) (by simp)
    have := Row.new w e (zrep z (n * z.length))
    rw [zrep_n hz (by omega)] at this
    rw [List.append_nil, zrep_n hz (by omega)]
    exact this
end
def leg0 : Leg := ⟨0, 0⟩
section
variable {F S : Nat → Prop} {w w' : World} {v : Value} {rb : Nat} {s : RS} {K : Value → World → Prop}
theorem rlegs_ok {m : Nat} (hm : m ≤ 1000000) (h : Rd F w rb s) (hF : ∀ b, F b → b < w.heap.size) (hK : ∀ w' v', Rd F w' rb (rLegs m s).2 → Ar lC 2 (Nb w w') w' v' (rLegs m s).1 → Kp (fun b => b = rb) w w' → K v' w') : cl Tryz.prog 106 #[P rb 0, I (m : Nat)] K w := by
  apply c106
  unfold s106_p4
  refine rup_ok (by omega) h fun w1 r1 hk1 => ?_
  have hup := rUp_v m s
  unfold rLegs at hK
  obtain ⟨n, hn⟩ : ∃ n, (rUp m s).1 = n := ⟨_, rfl⟩
  obtain ⟨s1, hs1⟩ : ∃ s1, (rUp m s).2 = s1 := ⟨_, rfl⟩
  rw [hn] at hK hup ⊢
  rw [hs1] at hK r1
  obtain ⟨bv, pre, rr, _⟩ := id r1
  try simp only [e_fd, e_nck, e_pkt, e_pkf, e_gdtt, e_gdtf, e_gdft, e_gdff, e_ift, e_iff, e_not, e_ln, e_lnT, e_cp, e_cvi, e_ex20, e_ex21, e_ex30, e_ex31, e_ex32, e_add, e_sub, e_mul, e_quo, e_rem, e_and, e_or, e_xor, e_shl, e_shr, e_eql, e_neq, e_lss, e_leq, e_gtr, e_geq, e_beq, e_bne, e_peq1, e_peq2, e_pne1, e_pne2, e_zeq1, e_zeq2, e_zne1, e_zne2, e_feq1, e_fne1, e_feq2, e_fne2, e_seq, e_sne, e_ta1, e_ta2, Nat.zero_add, Nat.add_zero, Bool.not_true, Bool.not_false]
  refine ld1_r rr rfl ?_
  by_cases hc : s1.2 = true ∨ n = 0
  · rw [if_pos hc] at hK
    have fin : K nilS w1 := hK w1 nilS r1 Ar.nil hk1
    cases hb : s1.2 with
    | true =>
      try simp only [e_fd, e_nck, e_pkt, e_pkf, e_gdtt, e_gdtf, e_gdft, e_gdff, e_ift, e_iff, e_not, e_ln, e_lnT, e_cp, e_cvi, e_ex20, e_ex21, e_ex30, e_ex31, e_ex32, e_add, e_sub, e_mul, e_quo, e_rem, e_and, e_or, e_xor, e_shl, e_shr, e_eql, e_neq, e_lss, e_leq, e_gtr, e_geq, e_beq, e_bne, e_peq1, e_peq2, e_pne1, e_pne2, e_zeq1, e_zeq2, e_zne1, e_zne2, e_feq1, e_fne1, e_feq2, e_fne2, e_seq, e_sne, e_ta1, e_ta2, Nat.zero_add, Nat.add_zero, Bool.not_true, Bool.not_false]
      exact fin
    | false =>
      have h0 : n = 0 := by
        rcases hc with q | q
        · rw [hb] at q; cases q
        · exact q
      have e1 : (((n : Nat) : Int) == 0) = true := by rw [h0]; rfl
      simp only [e1, e_fd, e_nck, e_pkt, e_pkf, e_gdtt, e_gdtf, e_gdft, e_gdff, e_ift, e_iff, e_not, e_ln, e_lnT, e_cp, e_cvi, e_ex20, e_ex21, e_ex30, e_ex31, e_ex32, e_add, e_sub, e_mul, e_quo, e_rem, e_and, e_or, e_xor, e_shl, e_shr, e_eql, e_neq, e_lss, e_leq, e_gtr, e_geq, e_beq, e_bne, e_peq1, e_peq2, e_pne1, e_pne2, e_zeq1, e_zeq2, e_zne1, e_zne2, e_feq1, e_fne1, e_feq2, e_fne2, e_seq, e_sne, e_ta1, e_ta2, Nat.zero_add, Nat.add_zero, Bool.not_true, Bool.not_false]
      exact fin
  · rw [if_neg hc] at hK
    have hb : s1.2 = false := by
      cases hb : s1.2 with
      | true => exact absurd (.inl hb) hc
      | false => rfl
    have h0 : n ≠ 0 := fun q => hc (.inr q)
    have e1 : (((n : Nat) : Int) == 0) = false := by rw [beq_eq_false_iff_ne]; omega
    rw [hb]
    simp only [e1, e_fd, e_nck, e_pkt, e_pkf, e_gdtt, e_gdtf, e_gdft, e_gdff, e_ift, e_iff, e_not, e_ln, e_lnT, e_cp, e_cvi, e_ex20, e_ex21, e_ex30, e_ex31, e_ex32, e_add, e_sub, e_mul, e_quo, e_rem, e_and, e_or, e_xor, e_shl, e_shr, e_eql, e_neq, e_lss, e_leq, e_gtr, e_geq, e_beq, e_bne, e_peq1, e_peq2, e_pne1, e_pne2, e_zeq1, e_zeq2, e_zne1, e_zne2, e_feq1, e_fne1, e_feq2, e_fne2, e_seq, e_sne, e_ta1, e_ta2, Nat.zero_add, Nat.add_zero, Bool.not_true, Bool.not_false]
    refine mks_n (f := lC) (k := 2) (z0 := leg0) rfl rfl (by decide) (by omega) (by omega) fun w2 s2 hk2 hz2 => ?_
    try simp only [e_fd, e_nck, e_pkt, e_pkf, e_gdtt, e_gdtf, e_gdft, e_gdff, e_ift, e_iff, e_not, e_ln, e_lnT, e_cp, e_cvi, e_ex20, e_ex21, e_ex30, e_ex31, e_ex32, e_add, e_sub, e_mul, e_quo, e_rem, e_and, e_or, e_xor, e_shl, e_shr, e_eql, e_neq, e_lss, e_leq, e_gtr, e_geq, e_beq, e_bne, e_peq1, e_peq2, e_pne1, e_pne2, e_zeq1, e_zeq2, e_zne1, e_zne2, e_feq1, e_fne1, e_feq2, e_fne2, e_seq, e_sne, e_ta1, e_ta2, Nat.zero_add, Nat.add_zero, Bool.not_true, Bool.not_false]
    have sz1 := hk1.size
    have rlt := r1.lt
    have hF2 : ∀ b, F b → ¬ b = w1.heap.size := fun b hb => by have := hF b hb; omega
    unfold s106_p3
    refine loop_n n (fun i l w' => ∃ done si, l = [P rb 0, .slice (some ⟨w1.heap.size, 0, none⟩) n n, I (n : Nat), I (i : Nat)] ∧ Rd F w' rb si ∧ done.length = i ∧ Sl lC 2 w' 88 (some w1.heap.size) (.slice (some ⟨w1.heap.size, 0, none⟩) n n) (done ++ List.replicate (n - i) leg0)
      ∧ rLegsN n s1 = (done ++ (rLegsN (n - i) si).1, (rLegsN (n - i) si).2) ∧ Kp (fun b => b = rb ∨ b = w1.heap.size) w2 w') ⟨[], s1, rfl, r1.kp' hk2, rfl, by simpa using s2, rfl, Kp.refl _ _⟩ ?_ ?_
    · rintro i l w3 hi ⟨done, si, rfl, r3, hd, s3, he, hk3⟩ B hB
      rw [s106_p3_Fe]
      unfold s106_p2
      try simp only [e_fd, e_nck, e_pkt, e_pkf, e_gdtt, e_gdtf, e_gdft, e_gdff, e_ift, e_iff, e_not, e_ln, e_lnT, e_cp, e_cvi, e_ex20, e_ex21, e_ex30, e_ex31, e_ex32, e_add, e_sub, e_mul, e_quo, e_rem, e_and, e_or, e_xor, e_shl, e_shr, e_eql, e_neq, e_lss, e_leq, e_gtr, e_geq, e_beq, e_bne, e_peq1, e_peq2, e_pne1, e_pne2, e_zeq1, e_zeq2, e_zne1, e_zne2, e_feq1, e_fne1, e_feq2, e_fne2, e_seq, e_sne, e_ta1, e_ta2, Nat.zero_add, Nat.add_zero, Bool.not_true, Bool.not_false]
      rw [dlt hi]
      try simp only [e_fd, e_nck, e_pkt, e_pkf, e_gdtt, e_gdtf, e_gdft, e_gdff, e_ift, e_iff, e_not, e_ln, e_lnT, e_cp, e_cvi, e_ex20, e_ex21, e_ex30, e_ex31, e_ex32, e_add, e_sub, e_mul, e_quo, e_rem, e_and, e_or, e_xor, e_shl, e_shr, e_eql, e_neq, e_lss, e_leq, e_gtr, e_geq, e_beq, e_bne, e_peq1, e_peq2, e_pne1, e_pne2, e_zeq1, e_zeq2, e_zne1, e_zne2, e_feq1, e_fne1, e_feq2, e_fne2, e_seq, e_sne, e_ta1, e_ta2, Nat.zero_add, Nat.add_zero, Bool.not_true, Bool.not_false]
      refine rnum_ok r3 fun w4 r4 hk4 => ?_
      have n4 : ∀ b, (some w1.heap.size : Option Nat) = some b → ¬ b = rb := fun b e q => by cases e; omega
      have s4 := s3.kp hk4 n4
      have hlen : i < (done ++ List.replicate (n - i) leg0).length := by rw [List.length_append, List.length_replicate]; omega
      refine sl_ixp s4 hlen ?_
      try simp only [e_fd, e_nck, e_pkt, e_pkf, e_gdtt, e_gdtf, e_gdft, e_gdff, e_ift, e_iff, e_not, e_ln, e_lnT, e_cp, e_cvi, e_ex20, e_ex21, e_ex30, e_ex31, e_ex32, e_add, e_sub, e_mul, e_quo, e_rem, e_and, e_or, e_xor, e_shl, e_shr, e_eql, e_neq, e_lss, e_leq, e_gtr, e_geq, e_beq, e_bne, e_peq1, e_peq2, e_pne1, e_pne2, e_zeq1, e_zeq2, e_zne1, e_zne2, e_feq1, e_fne1, e_feq2, e_fne2, e_seq, e_sne, e_ta1, e_ta2, Nat.zero_add, Nat.add_zero, Bool.not_true, Bool.not_false]
      refine sl_upd s4 lC_len (i := i) (j := 0) (y := ⟨((rNum si).1 : Nat), 0⟩) hlen (by decide) rfl ?_ fun w5 s5 hk5 hz5 => ?_
      · rw [List.getElem_append_right (by omega), List.getElem_replicate]; rfl
      refine rnum_ok (r4.kp hk5 hF2 (by omega)) fun w6 r6 hk6 => ?_
      have s6 := s5.kp hk6 n4
      refine sl_ixp s6 (by rw [List.length_set]; exact hlen) ?_
      try simp only [e_fd, e_nck, e_pkt, e_pkf, e_gdtt, e_gdtf, e_gdft, e_gdff, e_ift, e_iff, e_not, e_ln, e_lnT, e_cp, e_cvi, e_ex20, e_ex21, e_ex30, e_ex31, e_ex32, e_add, e_sub, e_mul, e_quo, e_rem, e_and, e_or, e_xor, e_shl, e_shr, e_eql, e_neq, e_lss, e_leq, e_gtr, e_geq, e_beq, e_bne, e_peq1, e_peq2, e_pne1, e_pne2, e_zeq1, e_zeq2, e_zne1, e_zne2, e_feq1, e_fne1, e_feq2, e_fne2, e_seq, e_sne, e_ta1, e_ta2, Nat.zero_add, Nat.add_zero, Bool.not_true, Bool.not_false]
      refine sl_upd s6 lC_len (i := i) (j := 1) (y := ⟨((rNum si).1 : Nat), ((rNum (rNum si).2).1 : Nat)⟩) (by rw [List.length_set]; exact hlen) (by decide) rfl ?_ fun w7 s7 hk7 hz7 => ?_
      · rw [List.getElem_set_self]; rfl
      rw [inc i (by omega)]
      refine hB _ w7 ⟨done ++ [⟨((rNum si).1 : Nat), ((rNum (rNum si).2).1 : Nat)⟩], (rNum (rNum si).2).2, rfl, r6.kp hk7 hF2 (by omega), by rw [List.length_append, hd]; rfl, ?_, ?_, ?_⟩
      · rw [List.set_set, List.set_append_right _ _ (by omega), hd, Nat.sub_self, show n - i = (n - (i + 1)) + 1 by omega, List.replicate_succ, List.set_cons_zero] at s7
        rw [List.append_assoc]
        exact s7
      · rw [he, show n - i = (n - (i + 1)) + 1 by omega, rLegsN, List.append_assoc]
        rfl
      · refine (((hk3.trans (hk4.mono fun b _ q => .inl q)).trans (hk5.mono fun b _ q => .inr q)).trans (hk6.mono fun b _ q => .inl q)).trans (hk7.mono fun b _ q => .inr q)
    · rintro l w3 ⟨done, si, rfl, r3, hd, s3, he, hk3⟩ B
      rw [s106_p3_Fe]
      unfold s106_p2
      try simp only [e_fd, e_nck, e_pkt, e_pkf, e_gdtt, e_gdtf, e_gdft, e_gdff, e_ift, e_iff, e_not, e_ln, e_lnT, e_cp, e_cvi, e_ex20, e_ex21, e_ex30, e_ex31, e_ex32, e_add, e_sub, e_mul, e_quo, e_rem, e_and, e_or, e_xor, e_shl, e_shr, e_eql, e_neq, e_lss, e_leq, e_gtr, e_geq, e_beq, e_bne, e_peq1, e_peq2, e_pne1, e_pne2, e_zeq1, e_zeq2, e_zne1, e_zne2, e_feq1, e_fne1, e_feq2, e_fne2, e_seq, e_sne, e_ta1, e_ta2, Nat.zero_add, Nat.add_zero, Bool.not_true, Bool.not_false]
      rw [dnlt]
      try simp only [e_fd, e_nck, e_pkt, e_pkf, e_gdtt, e_gdtf, e_gdft, e_gdff, e_ift, e_iff, e_not, e_ln, e_lnT, e_cp, e_cvi, e_ex20, e_ex21, e_ex30, e_ex31, e_ex32, e_add, e_sub, e_mul, e_quo, e_rem, e_and, e_or, e_xor, e_shl, e_shr, e_eql, e_neq, e_lss, e_leq, e_gtr, e_geq, e_beq, e_bne, e_peq1, e_peq2, e_pne1, e_pne2, e_zeq1, e_zeq2, e_zne1, e_zne2, e_feq1, e_fne1, e_feq2, e_fne2, e_seq, e_sne, e_ta1, e_ta2, Nat.zero_add, Nat.add_zero, Bool.not_true, Bool.not_false]
      unfold s106_p1
      rw [Nat.sub_self, rLegsN, List.append_nil] at he
      rw [Nat.sub_self, List.replicate_zero, List.append_nil] at s3
      rw [he] at hK
      have sz3 := hk3.size
      refine hK w3 _ r3 ?_ ?_
      · refine s3.ar lC_len (show done.length ≤ _ by omega) fun b e => ?_
        cases e
        exact ⟨by omega, by omega⟩
      · refine (hk1.trans hk2.none).then hk3 fun b hb q => ?_
        rcases q with q | q
        · exact q
        · omega
end
end Go.Proofs.Qxb6500896aGreat
