import Derived.Test.Qxb6500896aGreatDoorT7
namespace Go.Proofs.Qxb6500896aGreatDoor
open Go.Sh Go.RowKit
set_option linter.unusedVariables false
set_option linter.unusedSimpArgs false

section
variable {w w' w0 : World} {K : Value → World → Prop} {v : Value} {F : Nat → Prop} {xs : List Int}
/-- octets in hexadecimal -/
theorem hex_ok (h : Ar bC 1 F w v xs) (hF : ∀ b, F b → b < w.heap.size) (hb : By xs) (hl : xs.length ≤ 10000000) (hK : ∀ w' (s : ByteArray), Kp Emp w w' → s.size ≤ 2 * xs.length → K (.string s) w') : cl Tryz.prog 68 #[v] K w := by
  apply c68
  unfold s68_p7
  refine h.ln ?_
  try simp only [e_fd, e_nck, e_pkt, e_pkf, e_gdtt, e_gdtf, e_gdft, e_gdff, e_ift, e_iff, e_not, e_ln, e_lnT, e_cp, e_cvi, e_ex20, e_ex21, e_ex30, e_ex31, e_ex32, e_add, e_sub, e_mul, e_quo, e_rem, e_and, e_or, e_xor, e_shl, e_shr, e_eql, e_neq, e_lss, e_leq, e_gtr, e_geq, e_beq, e_bne, e_peq1, e_peq2, e_pne1, e_pne2, e_zeq1, e_zeq2, e_zne1, e_zne2, e_feq1, e_fne1, e_feq2, e_fne2, e_seq, e_sne, e_ta1, e_ta2, Nat.zero_add, Nat.add_zero, Bool.not_true, Bool.not_false]
  rw [wrap64_id (by omega) (by omega), show (2 : Int) * ((xs.length : Nat) : Int) = ((2 * xs.length : Nat) : Int) by omega]
  refine mks_0 (f := uC) (k := 1) rfl (by omega) (by omega) fun w1 sl1 hk1 hz1 => ?_
  refine h.ln ?_
  unfold s68_p6
  refine loop_n xs.length (fun i l w' => ∃ (ys : List UInt8) (b : Nat) (t : Value), l = [t, v, I (xs.length : Nat), I (i : Nat)] ∧ Sl uC 1 w' 5 (some b) t ys ∧ ys.length = 2 * i ∧ w.heap.size ≤ b ∧ Kp Emp w w') ⟨[], w.heap.size, _, rfl, sl1, rfl, Nat.le_refl _, hk1⟩ ?_ ?_
  · rintro i l w2 hi ⟨ys, b, t, rfl, sl2, hy, hbb, hk2⟩ B hB
    rw [s68_p6_Fe]
    unfold s68_p5
    simp only [dlt hi, e_fd, e_nck, e_pkt, e_pkf, e_gdtt, e_gdtf, e_gdft, e_gdff, e_ift, e_iff, e_not, e_ln, e_lnT, e_cp, e_cvi, e_ex20, e_ex21, e_ex30, e_ex31, e_ex32, e_add, e_sub, e_mul, e_quo, e_rem, e_and, e_or, e_xor, e_shl, e_shr, e_eql, e_neq, e_lss, e_leq, e_gtr, e_geq, e_beq, e_bne, e_peq1, e_peq2, e_pne1, e_pne2, e_zeq1, e_zeq2, e_zne1, e_zne2, e_feq1, e_fne1, e_feq2, e_fne2, e_seq, e_sne, e_ta1, e_ta2, Nat.zero_add, Nat.add_zero, Bool.not_true, Bool.not_false]
    unfold s68_p4
    refine (h.kp' hk2).ix hi fun b2 o2 hb2 hcc => ?_
    refine hcc.ld0 rfl ?_
    refine hex_round (hb _ (List.getElem_mem hi)) sl2 (by omega) fun w3 v3 ob3 x y sl3 hk3 ho3 => ?_
    have sz2 := hk2.size
    unfold s68_p2
    try simp only [e_fd, e_nck, e_pkt, e_pkf, e_gdtt, e_gdtf, e_gdft, e_gdff, e_ift, e_iff, e_not, e_ln, e_lnT, e_cp, e_cvi, e_ex20, e_ex21, e_ex30, e_ex31, e_ex32, e_add, e_sub, e_mul, e_quo, e_rem, e_and, e_or, e_xor, e_shl, e_shr, e_eql, e_neq, e_lss, e_leq, e_gtr, e_geq, e_beq, e_bne, e_peq1, e_peq2, e_pne1, e_pne2, e_zeq1, e_zeq2, e_zne1, e_zne2, e_feq1, e_fne1, e_feq2, e_fne2, e_seq, e_sne, e_ta1, e_ta2, Nat.zero_add, Nat.add_zero, Bool.not_true, Bool.not_false]
    rw [inc i (by omega)]
    have k3 : Kp Emp w w3 := hk2.then hk3 fun c hc q => by cases q; omega
    rcases ho3 with q | ⟨c, q, hc⟩
    · subst q
      exact hB _ _ ⟨ys ++ [x, y], b, v3, rfl, sl3, by simp; omega, hbb, k3⟩
    · subst q
      exact hB _ _ ⟨ys ++ [x, y], c, v3, rfl, sl3, by simp; omega, by omega, k3⟩
  · rintro l w2 ⟨ys, b, t, rfl, sl2, hy, hbb, hk2⟩ B
    rw [s68_p6_Fe]
    unfold s68_p5
    simp only [dnlt, e_fd, e_nck, e_pkt, e_pkf, e_gdtt, e_gdtf, e_gdft, e_gdff, e_ift, e_iff, e_not, e_ln, e_lnT, e_cp, e_cvi, e_ex20, e_ex21, e_ex30, e_ex31, e_ex32, e_add, e_sub, e_mul, e_quo, e_rem, e_and, e_or, e_xor, e_shl, e_shr, e_eql, e_neq, e_lss, e_leq, e_gtr, e_geq, e_beq, e_bne, e_peq1, e_peq2, e_pne1, e_pne2, e_zeq1, e_zeq2, e_zne1, e_zne2, e_feq1, e_fne1, e_feq2, e_fne2, e_seq, e_sne, e_ta1, e_ta2, Nat.zero_add, Nat.add_zero, Bool.not_true, Bool.not_false]
    unfold s68_p1
    obtain ⟨cap, junk, rfl, h2, h3, h4⟩ := sl2
    refine conv_r ys (fun j hj => ?_) cap (hK _ _ hk2 ?_)
    · rw [Nat.zero_add]
      rw [h4.cell]
      exact uC_get ys junk hj
    · show ys.toArray.size ≤ _
      simp; omega
end
end Go.Proofs.Qxb6500896aGreatDoor
