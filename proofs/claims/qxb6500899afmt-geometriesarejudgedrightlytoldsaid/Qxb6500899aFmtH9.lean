import Derived.Test.Qxb6500899aFmtH8
namespace Go.Proofs.Qxb6500899aFmt
open Go.Sh Go.RowKit
set_option linter.unusedVariables false
set_option linter.unusedSimpArgs false

set_option maxRecDepth 100000 in
theorem g29 : Tryf.prog.eqGuardType Tryf.prog.depth 29 = false := by kernel_rfl
set_option maxRecDepth 100000 in
theorem f29 : Tryf.prog.underlying 29 = some (.struct (Tryf.prog.fieldsOf 29)) := by kernel_rfl
set_option maxRecDepth 100000 in
theorem s29 : Tryf.prog.stoodInHeld 29 = false := by kernel_rfl
set_option maxRecDepth 100000 in
theorem flat29 (a b c : Int) : flatF Tryf.prog [U32 a, U64 b, U32 c] [U32 a, U64 b, U32 c] (Tryf.prog.fieldsOf 29).toList = some [(.u32, a, a), (.u64, b, b), (.u32, c, c)] := by kernel_rfl
theorem neq29 {a b c : Int} {x y : Operand} {K : Value → World → Prop} {w : World} (hK : K (.bool false) w) : bor Tryf.prog .neq 29 x y (.agg [U32 a, U64 b, U32 c].toArray) (.agg [U32 a, U64 b, U32 c].toArray) K w := by
  refine bor_neq_flat (P := Tryf.prog) (t := 29) (x := x) (y := y) (K := K) (w := w) (xs := [U32 a, U64 b, U32 c]) (ys := [U32 a, U64 b, U32 c]) (ps := [(.u32, a, a), (.u64, b, b), (.u32, c, c)]) g29 f29 s29 (flat29 a b c) ?_
  simp only [List.all_cons, List.all_nil, beq_self_eq_true, Bool.and_true, Bool.not_true]
  exact hK
section
variable {W w w' w1 : World} {K : Value → World → Prop} {B1 : List Value → World → Prop} {s n c : Nat} {db mb cb mm cm ob gb : Nat} {r ch sh mk : Int} {tk v t20 t21 : Value} {b : Nat} {l : List Value}
/-- reading a good device -/
theorem reads_ok {b1 b2 sb : Nat} {xs : List Nat} (h : Dk w db mb cb mm cm s n c r ch sh mk tk) (hg : good s n c) (r1 : Row w b1 5 (zeros s)) (r2 : Row w b2 5 (zeros s)) (hne : b1 ≠ b2) (r3 : Row w sb 25 (xs.map fun x => U64 (x : Nat))) (hx : ∀ x ∈ xs, x < n) (hl : xs.length = 4)
    (hK : ∀ w', Kp (fun k => k = db ∨ k = b1) w w' → s3_p2 K B1 v t20 t21 w') : s3_p4 K B1 (P db 0) (.slice (some ⟨b1, 0, none⟩) s s) (.slice (some ⟨b2, 0, none⟩) s s) v t20 t21 (.slice (some ⟨sb, 0, none⟩) 4 4) (I 4) (I 0) w := by
  obtain ⟨⟨h16, h65⟩, _, ⟨hn1, hn2⟩, _⟩ := id hg
  unfold s3_p4
  refine ⟨fun m l w' => ∃ (i : Nat) (r' : Int), i ≤ 4 ∧ m = 4 - i ∧ l = [P db 0, .slice (some ⟨b1, 0, none⟩) s s, .slice (some ⟨b2, 0, none⟩) s s, v, t20, t21, .slice (some ⟨sb, 0, none⟩) 4 4, I 4, I i] ∧ Dk w' db mb cb mm cm s n c r' ch sh mk tk ∧ Row w' b1 5 (zeros s) ∧ Row w' b2 5 (zeros s) ∧ Row w' sb 25 (xs.map fun x => U64 (x : Nat)) ∧ Kp (fun k => k = db ∨ k = b1) w w',
    4, ⟨0, r, by omega, by omega, rfl, h, r1, r2, r3, Kp.refl _ _⟩, ?_⟩
  rintro m l w1 ⟨i, r', hi, hm, rfl, h1, q1, q2, q3, k1⟩
  rw [s3_p4_Fe]
  unfold s3_p3
  try simp only [e_fd, e_nck, e_pkt, e_pkf, e_gdtt, e_gdtf, e_gdft, e_gdff, e_ift, e_iff, e_not, e_ln, e_lnT, e_cp, e_cvi, e_ex20, e_ex21, e_ex30, e_ex31, e_ex32, e_add, e_sub, e_mul, e_quo, e_rem, e_and, e_or, e_xor, e_shl, e_shr, e_eql, e_neq, e_lss, e_leq, e_gtr, e_geq, e_beq, e_bne, e_peq1, e_peq2, e_pne1, e_pne2, e_zeq1, e_zeq2, e_zne1, e_zne2, e_feq1, e_fne1, e_feq2, e_fne2, e_seq, e_sne, e_ta1, e_ta2, Nat.zero_add, Nat.add_zero, Bool.not_true, Bool.not_false]
  by_cases hlt : i < 4
  · have hlt' : (i : Int) < 4 := by omega
    simp only [hlt', decide_true, e_fd, e_nck, e_pkt, e_pkf, e_gdtt, e_gdtf, e_gdft, e_gdff, e_ift, e_iff, e_not, e_ln, e_lnT, e_cp, e_cvi, e_ex20, e_ex21, e_ex30, e_ex31, e_ex32, e_add, e_sub, e_mul, e_quo, e_rem, e_and, e_or, e_xor, e_shl, e_shr, e_eql, e_neq, e_lss, e_leq, e_gtr, e_geq, e_beq, e_bne, e_peq1, e_peq2, e_pne1, e_pne2, e_zeq1, e_zeq2, e_zne1, e_zne2, e_feq1, e_fne1, e_feq2, e_fne2, e_seq, e_sne, e_ta1, e_ta2, Nat.zero_add, Nat.add_zero, Bool.not_true, Bool.not_false]
    have hix : i < xs.length := by omega
    refine ⟨⟨by omega, by omega⟩, ?_⟩
    have ei : ((i : Int)).toNat * 1 = i := by omega
    rw [ei, add_mk, Nat.zero_add]
    refine ld1_r (v := U64 (xs[i] : Nat)) q3 (by rw [List.getElem?_map, List.getElem?_eq_getElem hix]; rfl) ?_
    refine ⟨⟨by omega, by omega⟩, ?_⟩
    have e0 : ((0 : Int)).toNat * 1 = 0 := rfl
    rw [e0, add_mk, Nat.zero_add]
    refine st1_r q1 (by simp [zeros]; omega) rfl fun w2 r2' hk2 hz2 => ?_
    obtain ⟨d1, d2, d3, d4, d5⟩ := h1.step q1
    have h2 := h1.kp hk2 d1 d2 d3 d4 d5
    have q22 := hk2.row q2 (fun (q : b2 = b1) => hne q.symm)
    have q32 := hk2.row q3 (row_ne q3 q1 (by decide))
    refine read_ok h2 (by omega) (hx _ (List.getElem_mem hix)) hn2 r2' (by simp [zeros]) fun w3 r3' h3 q13 hk3 => ?_
    have q23 : Row w3 b2 5 (zeros s) := hk3.row q22 (fun q => q.elim (fun e => row_ne h2.row q22 (by decide) e.symm) (fun e => hne e.symm))
    have q33 := hk3.row q32 (fun q => q.elim (fun e => row_ne h2.row q32 (by decide) e.symm) (fun e => row_ne q32 r2' (by decide) e))
    try simp only [e_fd, e_nck, e_pkt, e_pkf, e_gdtt, e_gdtf, e_gdft, e_gdff, e_ift, e_iff, e_not, e_ln, e_lnT, e_cp, e_cvi, e_ex20, e_ex21, e_ex30, e_ex31, e_ex32, e_add, e_sub, e_mul, e_quo, e_rem, e_and, e_or, e_xor, e_shl, e_shr, e_eql, e_neq, e_lss, e_leq, e_gtr, e_geq, e_beq, e_bne, e_peq1, e_peq2, e_pne1, e_pne2, e_zeq1, e_zeq2, e_zne1, e_zne2, e_feq1, e_fne1, e_feq2, e_fne2, e_seq, e_sne, e_ta1, e_ta2, Nat.zero_add, Nat.add_zero, Bool.not_true, Bool.not_false]
    refine equal_ok q13 q23 ?_
    try simp only [e_fd, e_nck, e_pkt, e_pkf, e_gdtt, e_gdtf, e_gdft, e_gdff, e_ift, e_iff, e_not, e_ln, e_lnT, e_cp, e_cvi, e_ex20, e_ex21, e_ex30, e_ex31, e_ex32, e_add, e_sub, e_mul, e_quo, e_rem, e_and, e_or, e_xor, e_shl, e_shr, e_eql, e_neq, e_lss, e_leq, e_gtr, e_geq, e_beq, e_bne, e_peq1, e_peq2, e_pne1, e_pne2, e_zeq1, e_zeq2, e_zne1, e_zne2, e_feq1, e_fne1, e_feq2, e_fne2, e_seq, e_sne, e_ta1, e_ta2, Nat.zero_add, Nat.add_zero, Bool.not_true, Bool.not_false]
    rw [wrap64_id (by omega) (by omega)]
    refine ⟨4 - (i + 1), by omega, i + 1, r3', by omega, rfl, by simp, h3, q13, q23, q33, ?_⟩
    exact (k1.trans (hk2.mono fun k hk (q : k = b1) => .inr q)).trans hk3
  · have hlt' : ¬ (i : Int) < 4 := by omega
    simp only [hlt', decide_false, e_fd, e_nck, e_pkt, e_pkf, e_gdtt, e_gdtf, e_gdft, e_gdff, e_ift, e_iff, e_not, e_ln, e_lnT, e_cp, e_cvi, e_ex20, e_ex21, e_ex30, e_ex31, e_ex32, e_add, e_sub, e_mul, e_quo, e_rem, e_and, e_or, e_xor, e_shl, e_shr, e_eql, e_neq, e_lss, e_leq, e_gtr, e_geq, e_beq, e_bne, e_peq1, e_peq2, e_pne1, e_pne2, e_zeq1, e_zeq2, e_zne1, e_zne2, e_feq1, e_fne1, e_feq2, e_fne2, e_seq, e_sne, e_ta1, e_ta2, Nat.zero_add, Nat.add_zero, Bool.not_true, Bool.not_false]
    exact hK w1 k1
end
end Go.Proofs.Qxb6500899aFmt
