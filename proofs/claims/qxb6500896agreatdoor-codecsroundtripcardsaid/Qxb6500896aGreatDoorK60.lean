import Derived.Test.Qxb6500896aGreatDoorK59
namespace Go.Proofs.Qxb6500896aGreatDoor
open Go.Sh Go.RowKit
set_option linter.unusedVariables false
set_option linter.unusedSimpArgs false

set_option maxRecDepth 100000 in
theorem uSB : Tryz.prog.underlying 35 = some (.slice 5) := by kernel_rfl
set_option maxRecDepth 100000 in
theorem uU8 : Tryz.prog.underlying 5 = some (.int .u8) := by kernel_rfl
set_option maxRecDepth 100000 in
theorem uStr : Tryz.prog.underlying 9 = some .string := by kernel_rfl
def u8v (u : UInt8) : Value := U8 (u.toNat : Nat)
theorem tdiv10 {n : Int} {k : Nat} (h : n.natAbs < 10 ^ (k + 1)) : (n.tdiv 10).natAbs < 10 ^ k := by
  rw [Int.natAbs_tdiv]
  show n.natAbs / 10 < 10 ^ k
  rw [Nat.div_lt_iff_lt_mul (by decide), ← Nat.pow_succ]
  exact h
theorem dig (d : Int) (h0 : 0 ≤ d) (h1 : d ≤ 9) : ∃ u : UInt8, Value.int .u8 (IntKind.u8.wrap (IntKind.i64.wrap (48 + d))) = u8v u := by
  refine ⟨UInt8.ofNat (48 + d.toNat), ?_⟩
  rw [wrap64_id (by omega) (by omega), wrapu8]
  unfold u8v
  rw [UInt8.toNat_ofNat']
  congr 1
  omega
section
variable {w w' : World} {K : Value → World → Prop} {b : Nat} {bs : List UInt8} {n : Int}
theorem u8_set {k : Nat} {u : UInt8} (hk : k < bs.length) : (bs.map u8v).set k (u8v u) = (bs.set k u).map u8v := by rw [List.map_set]
theorem conv_r {a : Nat} (l : List UInt8) (hc : ∀ j (hj : j < l.length), w.cell? ⟨b, a + j, none⟩ = some (u8v l[j])) (cap : Nat) (hK : K (.string ⟨l.toArray⟩) w) : rs Tryz.prog (convert 35 9 (.slice (some ⟨b, a, none⟩) l.length cap)) K w := by
  have h := run_convert_bytes_back (P := Tryz.prog) w 35 9 5 ⟨b, a, none⟩ cap l uSB uU8 uStr (fun j hj => by
    rw [add_mk, hc j hj]
    rfl)
  exact rs_ok h hK
theorem decimal_ok (hn : -9223372036854775808 ≤ n ∧ n ≤ 9223372036854775807) (hK : ∀ w' s, Kp Emp w w' → s.size ≤ 20 → K (.string s) w') : cl Tryz.prog 56 #[I n] K w := by
  apply c56
  unfold s56_p5
  try simp only [e_fd, e_nck, e_pkt, e_pkf, e_gdtt, e_gdtf, e_gdft, e_gdff, e_ift, e_iff, e_not, e_ln, e_lnT, e_cp, e_cvi, e_ex20, e_ex21, e_ex30, e_ex31, e_ex32, e_add, e_sub, e_mul, e_quo, e_rem, e_and, e_or, e_xor, e_shl, e_shr, e_eql, e_neq, e_lss, e_leq, e_gtr, e_geq, e_beq, e_bne, e_peq1, e_peq2, e_pne1, e_pne2, e_zeq1, e_zeq2, e_zne1, e_zne2, e_feq1, e_fne1, e_feq2, e_fne2, e_seq, e_sne, e_ta1, e_ta2, Nat.zero_add, Nat.add_zero, Bool.not_true, Bool.not_false]
  cases h0 : (n == 0) with
  | true =>
    try simp only [e_fd, e_nck, e_pkt, e_pkf, e_gdtt, e_gdtf, e_gdft, e_gdff, e_ift, e_iff, e_not, e_ln, e_lnT, e_cp, e_cvi, e_ex20, e_ex21, e_ex30, e_ex31, e_ex32, e_add, e_sub, e_mul, e_quo, e_rem, e_and, e_or, e_xor, e_shl, e_shr, e_eql, e_neq, e_lss, e_leq, e_gtr, e_geq, e_beq, e_bne, e_peq1, e_peq2, e_pne1, e_pne2, e_zeq1, e_zeq2, e_zne1, e_zne2, e_feq1, e_fne1, e_feq2, e_fne2, e_seq, e_sne, e_ta1, e_ta2, Nat.zero_add, Nat.add_zero, Bool.not_true, Bool.not_false]
    exact hK w _ (Kp.refl _ _) (by decide)
  | false =>
    try simp only [e_fd, e_nck, e_pkt, e_pkf, e_gdtt, e_gdtf, e_gdft, e_gdff, e_ift, e_iff, e_not, e_ln, e_lnT, e_cp, e_cvi, e_ex20, e_ex21, e_ex30, e_ex31, e_ex32, e_add, e_sub, e_mul, e_quo, e_rem, e_and, e_or, e_xor, e_shl, e_shr, e_eql, e_neq, e_lss, e_leq, e_gtr, e_geq, e_beq, e_bne, e_peq1, e_peq2, e_pne1, e_pne2, e_zeq1, e_zeq2, e_zne1, e_zne2, e_feq1, e_fne1, e_feq2, e_fne2, e_seq, e_sne, e_ta1, e_ta2, Nat.zero_add, Nat.add_zero, Bool.not_true, Bool.not_false]
    refine nw_r fun w1 r1 hk1 hz1 => ?_
    replace r1 : Row w1 w.heap.size 165 ((List.replicate 20 (0 : UInt8)).map u8v) := r1
    unfold s56_p4
    generalize decide (n < 0) = neg
    have fin : ∀ (w2 : World) (at_ : Nat) (bs : List UInt8), at_ ≤ 20 → bs.length = 20 → Row w2 w.heap.size 165 (bs.map u8v) → Kp Emp w w2 → s56_p1 K (P w.heap.size 0) (I (at_ : Nat)) w2 := by
      intro w2 at_ bs ha hl r2 k2
      unfold s56_p1
      show (0 ≤ ((at_ : Nat) : Int) ∧ ((at_ : Nat) : Int) ≤ ((20 : Nat) : Int) ∧ ((20 : Nat) : Int) ≤ ((20 : Nat) : Int)) ∧ _
      refine ⟨⟨by omega, by omega, by omega⟩, ?_⟩
      have e1 : (((at_ : Nat) : Int)).toNat = at_ := by omega
      have e2 : ((20 : Nat) : Int).toNat - (((at_ : Nat) : Int)).toNat = bs.length - at_ := by omega
      rw [e2, e1]
      by_cases h20 : 20 = at_
      · rw [if_pos h20, show bs.length - at_ = ([] : List UInt8).length by simp; omega]
        exact conv_r (a := 0) [] (fun j hj => by simp at hj) _ (hK w2 _ k2 (by decide))
      · rw [if_neg h20, add_mk, Nat.mul_one, Nat.zero_add, ← List.length_drop]
        refine conv_r (bs.drop at_) (fun j hj => ?_) _ (hK w2 _ k2 (by show (bs.drop at_).toArray.size ≤ 20; rw [List.size_toArray, List.length_drop]; omega))
        rw [List.length_drop] at hj
        rw [r2.cell, List.getElem?_map, List.getElem?_eq_getElem (by omega), List.getElem_drop]
        rfl
    refine ⟨fun k l w' => ∃ (n : Int) (bs : List UInt8), n.natAbs < 10 ^ k ∧ k ≤ 19 ∧ (-9223372036854775808 ≤ n ∧ n ≤ 9223372036854775807) ∧ l = [I n, P w.heap.size 0, I ((k + 1 : Nat) : Int), .bool neg] ∧ Row w' w.heap.size 165 (bs.map u8v) ∧ bs.length = 20 ∧ Kp Emp w w', 19, ⟨n, _, by omega, by omega, hn, rfl, r1, by simp, hk1⟩, ?_⟩
    rintro k l w2 ⟨n, bs, hp, hk, hn, rfl, r2, hl, k2⟩
    rw [s56_p4_Fe]
    unfold s56_p3
    simp only [nei, e_fd, e_nck, e_pkt, e_pkf, e_gdtt, e_gdtf, e_gdft, e_gdff, e_ift, e_iff, e_not, e_ln, e_lnT, e_cp, e_cvi, e_ex20, e_ex21, e_ex30, e_ex31, e_ex32, e_add, e_sub, e_mul, e_quo, e_rem, e_and, e_or, e_xor, e_shl, e_shr, e_eql, e_neq, e_lss, e_leq, e_gtr, e_geq, e_beq, e_bne, e_peq1, e_peq2, e_pne1, e_pne2, e_zeq1, e_zeq2, e_zne1, e_zne2, e_feq1, e_fne1, e_feq2, e_fne2, e_seq, e_sne, e_ta1, e_ta2, Nat.zero_add, Nat.add_zero, Bool.not_true, Bool.not_false]
    by_cases hz : n = 0
    · simp only [hz, decide_true, Bool.not_true, e_fd, e_nck, e_pkt, e_pkf, e_gdtt, e_gdtf, e_gdft, e_gdff, e_ift, e_iff, e_not, e_ln, e_lnT, e_cp, e_cvi, e_ex20, e_ex21, e_ex30, e_ex31, e_ex32, e_add, e_sub, e_mul, e_quo, e_rem, e_and, e_or, e_xor, e_shl, e_shr, e_eql, e_neq, e_lss, e_leq, e_gtr, e_geq, e_beq, e_bne, e_peq1, e_peq2, e_pne1, e_pne2, e_zeq1, e_zeq2, e_zne1, e_zne2, e_feq1, e_fne1, e_feq2, e_fne2, e_seq, e_sne, e_ta1, e_ta2, Nat.zero_add, Nat.add_zero, Bool.not_true, Bool.not_false]
      unfold s56_p2
      cases neg with
      | true =>
        try simp only [e_fd, e_nck, e_pkt, e_pkf, e_gdtt, e_gdtf, e_gdft, e_gdff, e_ift, e_iff, e_not, e_ln, e_lnT, e_cp, e_cvi, e_ex20, e_ex21, e_ex30, e_ex31, e_ex32, e_add, e_sub, e_mul, e_quo, e_rem, e_and, e_or, e_xor, e_shl, e_shr, e_eql, e_neq, e_lss, e_leq, e_gtr, e_geq, e_beq, e_bne, e_peq1, e_peq2, e_pne1, e_pne2, e_zeq1, e_zeq2, e_zne1, e_zne2, e_feq1, e_fne1, e_feq2, e_fne2, e_seq, e_sne, e_ta1, e_ta2, Nat.zero_add, Nat.add_zero, Bool.not_true, Bool.not_false]
        have e1 : IntKind.i64.wrap (((k + 1 : Nat) : Int) - 1) = ((k : Nat) : Int) := by rw [wrap64_id (by omega) (by omega)]; omega
        rw [e1]
        refine ⟨⟨by omega, by omega⟩, ?_⟩
        have e2 : ((k : Nat) : Int).toNat * 1 = k := by omega
        rw [e2, add_mk, Nat.zero_add]
        refine st1_r r2 (by rw [List.length_map]; omega) rfl fun w3 r3 hk3 hz3 => ?_
        have e3 : (Value.int .u8 45) = u8v 45 := rfl
        rw [e3, u8_set (by omega)] at r3
        exact fin w3 k _ (by omega) (by rw [List.length_set]; exact hl) r3 (k2.then hk3 fun j hj (q : j = _) => by omega)
      | false =>
        try simp only [e_fd, e_nck, e_pkt, e_pkf, e_gdtt, e_gdtf, e_gdft, e_gdff, e_ift, e_iff, e_not, e_ln, e_lnT, e_cp, e_cvi, e_ex20, e_ex21, e_ex30, e_ex31, e_ex32, e_add, e_sub, e_mul, e_quo, e_rem, e_and, e_or, e_xor, e_shl, e_shr, e_eql, e_neq, e_lss, e_leq, e_gtr, e_geq, e_beq, e_bne, e_peq1, e_peq2, e_pne1, e_pne2, e_zeq1, e_zeq2, e_zne1, e_zne2, e_feq1, e_fne1, e_feq2, e_fne2, e_seq, e_sne, e_ta1, e_ta2, Nat.zero_add, Nat.add_zero, Bool.not_true, Bool.not_false]
        exact fin w2 (k + 1) bs (by omega) hl r2 k2
    · simp only [hz, decide_false, Bool.not_false, e_fd, e_nck, e_pkt, e_pkf, e_gdtt, e_gdtf, e_gdft, e_gdff, e_ift, e_iff, e_not, e_ln, e_lnT, e_cp, e_cvi, e_ex20, e_ex21, e_ex30, e_ex31, e_ex32, e_add, e_sub, e_mul, e_quo, e_rem, e_and, e_or, e_xor, e_shl, e_shr, e_eql, e_neq, e_lss, e_leq, e_gtr, e_geq, e_beq, e_bne, e_peq1, e_peq2, e_pne1, e_pne2, e_zeq1, e_zeq2, e_zne1, e_zne2, e_feq1, e_fne1, e_feq2, e_fne2, e_seq, e_sne, e_ta1, e_ta2, Nat.zero_add, Nat.add_zero, Bool.not_true, Bool.not_false]
      have hk1 : 1 ≤ k := by
        rcases Nat.eq_zero_or_pos k with q | q
        · subst q; simp at hp; omega
        · exact q
      obtain ⟨k', rfl⟩ : ∃ k', k = k' + 1 := ⟨k - 1, by omega⟩
      have hq := tdiv10 hp
      have hm1 : n.tmod 10 < 10 := Int.tmod_lt_of_pos _ (by decide)
      have hm2 : -10 < n.tmod 10 := Int.lt_tmod_of_pos _ (by decide)
      have hdb : -9223372036854775808 ≤ n.tdiv 10 ∧ n.tdiv 10 ≤ 9223372036854775807 := by
        have hna : (n.tdiv 10).natAbs = n.natAbs / 10 := Int.natAbs_tdiv _ _
        omega
      refine ⟨by decide, ?_⟩
      by_cases hd : n.tmod 10 < 0
      · simp only [hd, decide_true, e_fd, e_nck, e_pkt, e_pkf, e_gdtt, e_gdtf, e_gdft, e_gdff, e_ift, e_iff, e_not, e_ln, e_lnT, e_cp, e_cvi, e_ex20, e_ex21, e_ex30, e_ex31, e_ex32, e_add, e_sub, e_mul, e_quo, e_rem, e_and, e_or, e_xor, e_shl, e_shr, e_eql, e_neq, e_lss, e_leq, e_gtr, e_geq, e_beq, e_bne, e_peq1, e_peq2, e_pne1, e_pne2, e_zeq1, e_zeq2, e_zne1, e_zne2, e_feq1, e_fne1, e_feq2, e_fne2, e_seq, e_sne, e_ta1, e_ta2, Nat.zero_add, Nat.add_zero, Bool.not_true, Bool.not_false]
        have en : un .neg (I (n.tmod 10)) = fun K w => K (I (0 - n.tmod 10)) w := by
          funext K w
          show K (I (IntKind.i64.wrap (0 - n.tmod 10))) w = _
          rw [wrap64_id (by omega) (by omega)]
        rw [en]
        try simp only [e_fd, e_nck, e_pkt, e_pkf, e_gdtt, e_gdtf, e_gdft, e_gdff, e_ift, e_iff, e_not, e_ln, e_lnT, e_cp, e_cvi, e_ex20, e_ex21, e_ex30, e_ex31, e_ex32, e_add, e_sub, e_mul, e_quo, e_rem, e_and, e_or, e_xor, e_shl, e_shr, e_eql, e_neq, e_lss, e_leq, e_gtr, e_geq, e_beq, e_bne, e_peq1, e_peq2, e_pne1, e_pne2, e_zeq1, e_zeq2, e_zne1, e_zne2, e_feq1, e_fne1, e_feq2, e_fne2, e_seq, e_sne, e_ta1, e_ta2, Nat.zero_add, Nat.add_zero, Bool.not_true, Bool.not_false]
        have e1 : IntKind.i64.wrap (((k' + 1 + 1 : Nat) : Int) - 1) = ((k' + 1 : Nat) : Int) := by rw [wrap64_id (by omega) (by omega)]; omega
        rw [e1]
        obtain ⟨u, hu⟩ := dig (0 - n.tmod 10) (by omega) (by omega)
        rw [hu]
        refine ⟨⟨by omega, by omega⟩, ?_⟩
        have e2 : ((k' + 1 : Nat) : Int).toNat * 1 = k' + 1 := by omega
        rw [e2, add_mk, Nat.zero_add]
        refine st1_r r2 (by rw [List.length_map]; omega) rfl fun w3 r3 hk3 hz3 => ?_
        rw [u8_set (by omega)] at r3
        refine ⟨by decide, ?_⟩
        rw [wrap64_id hdb.1 hdb.2]
        exact ⟨k', by omega, n.tdiv 10, _, hq, by omega, hdb, rfl, r3, by rw [List.length_set]; exact hl, k2.then hk3 fun j hj (q : j = _) => by omega⟩
      · simp only [hd, decide_false, e_fd, e_nck, e_pkt, e_pkf, e_gdtt, e_gdtf, e_gdft, e_gdff, e_ift, e_iff, e_not, e_ln, e_lnT, e_cp, e_cvi, e_ex20, e_ex21, e_ex30, e_ex31, e_ex32, e_add, e_sub, e_mul, e_quo, e_rem, e_and, e_or, e_xor, e_shl, e_shr, e_eql, e_neq, e_lss, e_leq, e_gtr, e_geq, e_beq, e_bne, e_peq1, e_peq2, e_pne1, e_pne2, e_zeq1, e_zeq2, e_zne1, e_zne2, e_feq1, e_fne1, e_feq2, e_fne2, e_seq, e_sne, e_ta1, e_ta2, Nat.zero_add, Nat.add_zero, Bool.not_true, Bool.not_false]
        have e1 : IntKind.i64.wrap (((k' + 1 + 1 : Nat) : Int) - 1) = ((k' + 1 : Nat) : Int) := by rw [wrap64_id (by omega) (by omega)]; omega
        rw [e1]
        obtain ⟨u, hu⟩ := dig (n.tmod 10) (by omega) (by omega)
        rw [hu]
        refine ⟨⟨by omega, by omega⟩, ?_⟩
        have e2 : ((k' + 1 : Nat) : Int).toNat * 1 = k' + 1 := by omega
        rw [e2, add_mk, Nat.zero_add]
        refine st1_r r2 (by rw [List.length_map]; omega) rfl fun w3 r3 hk3 hz3 => ?_
        rw [u8_set (by omega)] at r3
        refine ⟨by decide, ?_⟩
        rw [wrap64_id hdb.1 hdb.2]
        exact ⟨k', by omega, n.tdiv 10, _, hq, by omega, hdb, rfl, r3, by rw [List.length_set]; exact hl, k2.then hk3 fun j hj (q : j = _) => by omega⟩
end
end Go.Proofs.Qxb6500896aGreatDoor
