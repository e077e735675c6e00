import Derived.Test.Qxb6500896aGreatDoorT5
namespace Go.Proofs.Qxb6500896aGreatDoor
open Go.Sh Go.RowKit
set_option linter.unusedVariables false
set_option linter.unusedSimpArgs false

section
variable {w w' w0 : World} {K : Value → World → Prop} {t lo n kb : Nat} {F : Nat → Prop} {lv : Value} {q : Rq} {xr : List (Nat × TypeId × List Value)}
theorem fr2 (h : Tx w0 w t lo n kb 49 (q.cells lv) xr) (ha : Ar lC 2 F w0 lv q.legs) (hF : ∀ b, F b → b < w0.heap.size) (hN : XprN q) (hlo : 1 ≤ lo) (hn : n ≤ 1000) (hK : ∀ w' (s : ByteArray), Kp Emp w0 w' → 1 ≤ s.size → s.size ≤ 100000 → K (.string s) w') : s69_p2 K (P kb 0) (P t 0) w := by
  unfold s69_p2 s69_p2_d
  have kd : Kp Emp w (drw w) := kp_drw
  generalize drw w = w1 at kd ⊢
  have h1 := h.emp kd
  refine ⟨fun w' => Row w' kb 49 (q.cells lv), h1.kr, ?_⟩
  refine fdp ⟨_, fun w' hJ => ld1_r (v := I q.cl) hJ rfl ⟨rfl, rfl⟩, ?_⟩
  refine fdp ⟨_, fun w' hJ => ld1_r (v := I q.sz) hJ rfl ⟨rfl, rfl⟩, ?_⟩
  refine fdp ⟨_, fun w' hJ => ld1_r (v := lv) hJ rfl ⟨rfl, rfl⟩, ?_⟩
  have e2 : (⟨#[99, 108, 97, 115, 115]⟩ : ByteArray).size = 5 := rfl
  have e3 : (⟨#[115, 105, 122, 101]⟩ : ByteArray).size = 4 := rfl
  refine field_ok h1 (by omega) (n63w hN.cl) fun w2 h2 => ⟨h2.kr, ?_⟩
  refine field_ok h2 (by omega) (n63w hN.sz) fun w3 h3 => ⟨h3.kr, ?_⟩
  exact legs_ok h3 (ha.kp' h3.k) hN.ll hF hN.lg (by omega) fun w4 h4 => fr_end h4 hlo (by omega) hK
theorem fr3 (h : Tx w0 w t lo n kb 49 (q.cells lv) xr) (ha : Ar lC 2 F w0 lv q.legs) (hF : ∀ b, F b → b < w0.heap.size) (hN : XprN q) (hlo : 1 ≤ lo) (hn : n ≤ 1000) (hK : ∀ w' (s : ByteArray), Kp Emp w0 w' → 1 ≤ s.size → s.size ≤ 100000 → K (.string s) w') : s69_p3 K (P kb 0) (P t 0) w := by
  unfold s69_p3 s69_p3_d
  have kd : Kp Emp w (drw w) := kp_drw
  generalize drw w = w1 at kd ⊢
  have h1 := h.emp kd
  refine ⟨fun w' => Row w' kb 49 (q.cells lv), h1.kr, ?_⟩
  refine fdp ⟨_, fun w' hJ => ld1_r (v := I q.id) hJ rfl ⟨rfl, rfl⟩, ?_⟩
  refine fdp ⟨_, fun w' hJ => ld1_r (v := lv) hJ rfl ⟨rfl, rfl⟩, ?_⟩
  have e2 : (⟨#[105, 100]⟩ : ByteArray).size = 2 := rfl
  refine field_ok h1 (by omega) (n63w hN.id) fun w2 h2 => ⟨h2.kr, ?_⟩
  exact legs_ok h2 (ha.kp' h2.k) hN.ll hF hN.lg (by omega) fun w4 h4 => fr_end h4 hlo (by omega) hK
/-- a request in words -/
theorem fmtReq_ok (ha : Ar lC 2 F w lv q.legs) (hF : ∀ b, F b → b < w.heap.size) (hN : XprN q) (hK : ∀ w' (s : ByteArray), Kp Emp w w' → 1 ≤ s.size → s.size ≤ 100000 → K (.string s) w') : cl Tryz.prog 69 #[.agg (q.cells lv).toArray] K w := by
  apply c69
  unfold s69_p26
  refine nw_r fun w1 r1 hk1 hz1 => ?_
  replace r1 : Row w1 w.heap.size 49 (q.cells lv) := r1
  refine bdq_r (l := [.slice none 0 0]) rfl ?_
  refine nw_r fun w2 r2 hk2 hz2 => ?_
  replace r2 : Row w2 w1.heap.size 169 [.slice none 0 0] := r2
  have h2 : Tx w w2 w1.heap.size 0 0 w.heap.size 49 (q.cells lv) [] := ⟨⟨none, _, [], r2, ⟨rfl, rfl⟩, ⟨Nat.le_refl _, Nat.le_refl _⟩, fun b e => by cases e⟩, by omega, hk1.trans hk2, hk2.row' r1, ⟨by decide, by decide⟩, fun x hx => by cases hx⟩
  refine fdp (ld1_r (v := U8 q.op) h2.kr rfl ?_)
  have hop := hN.op
  refine opName_ok (by omega) fun w3 s hk3 s1 s2 => ?_
  refine word_ok (h2.emp hk3) (by omega) fun w4 h4 => ?_
  have h5 : Tx w w4 w1.heap.size 1 50 w.heap.size 49 (q.cells lv) [] := (h4.mono (by omega)).low (by omega)
  refine fdp (ld1_r (v := U8 q.op) h5.kr rfl ?_)
  unfold s69_p25
  have p17 : s69_p17 K (P w.heap.size 0) (P w1.heap.size 0) (U8 q.op) w4 := by
    unfold s69_p17 s69_p16
    refine sw_c (X := fun w => s69_p6 K _ _ w) (A := fun w => s69_p15 K _ _ _ w) (fun _ => fr6 h5 hN (Nat.le_refl _) (by omega) hK) fun _ => ?_
    unfold s69_p15 s69_p14
    refine sw_c (X := fun w => s69_p7 K _ _ w) (A := fun w => s69_p13 K _ _ _ w) (fun _ => fr7 h5 hN (Nat.le_refl _) (by omega) hK) fun _ => ?_
    unfold s69_p13 s69_p12
    refine sw_c (X := fun w => s69_p8 K _ _ w) (A := fun w => s69_p11 K _ _ _ w) (fun _ => fr8 h5 hN (Nat.le_refl _) (by omega) hK) fun _ => ?_
    unfold s69_p11 s69_p10
    exact sw_c (X := fun w => s69_p9 K _ _ w) (A := fun w => s69_p1 K _ w) (fun _ => fr9 h5 hN (Nat.le_refl _) (by omega) hK) fun _ => fr_end h5 (Nat.le_refl _) (by omega) hK
  have p18 : ∀ c : Bool, s69_p18 K (P w.heap.size 0) (P w1.heap.size 0) (U8 q.op) (.bool c) w4 := by
    intro c
    unfold s69_p18
    cases c with
    | true => exact sw_t (fr5 h5 hN (Nat.le_refl _) (by omega) hK)
    | false => exact sw_f p17
  have p21 : s69_p21 K (P w.heap.size 0) (P w1.heap.size 0) (U8 q.op) w4 := by
    unfold s69_p21 s69_p20
    refine sw_c (X := fun w => s69_p4 K _ _ w) (A := fun w => s69_p19 K _ _ _ w) (fun _ => fr4 h5 hN (Nat.le_refl _) (by omega) hK) fun _ => ?_
    unfold s69_p19
    try simp only [e_fd, e_nck, e_pkt, e_pkf, e_gdtt, e_gdtf, e_gdft, e_gdff, e_ift, e_iff, e_not, e_ln, e_lnT, e_cp, e_cvi, e_ex20, e_ex21, e_ex30, e_ex31, e_ex32, e_add, e_sub, e_mul, e_quo, e_rem, e_and, e_or, e_xor, e_shl, e_shr, e_eql, e_neq, e_lss, e_leq, e_gtr, e_geq, e_beq, e_bne, e_peq1, e_peq2, e_pne1, e_pne2, e_zeq1, e_zeq2, e_zne1, e_zne2, e_feq1, e_fne1, e_feq2, e_fne2, e_seq, e_sne, e_ta1, e_ta2, Nat.zero_add, Nat.add_zero, Bool.not_true, Bool.not_false]
    cases hA : (q.op == 2) <;> simp only [e_fd, e_nck, e_pkt, e_pkf, e_gdtt, e_gdtf, e_gdft, e_gdff, e_ift, e_iff, e_not, e_ln, e_lnT, e_cp, e_cvi, e_ex20, e_ex21, e_ex30, e_ex31, e_ex32, e_add, e_sub, e_mul, e_quo, e_rem, e_and, e_or, e_xor, e_shl, e_shr, e_eql, e_neq, e_lss, e_leq, e_gtr, e_geq, e_beq, e_bne, e_peq1, e_peq2, e_pne1, e_pne2, e_zeq1, e_zeq2, e_zne1, e_zne2, e_feq1, e_fne1, e_feq2, e_fne2, e_seq, e_sne, e_ta1, e_ta2, Nat.zero_add, Nat.add_zero, Bool.not_true, Bool.not_false]
    case true => exact p18 true
    cases hB : (q.op == 3) <;> simp only [e_fd, e_nck, e_pkt, e_pkf, e_gdtt, e_gdtf, e_gdft, e_gdff, e_ift, e_iff, e_not, e_ln, e_lnT, e_cp, e_cvi, e_ex20, e_ex21, e_ex30, e_ex31, e_ex32, e_add, e_sub, e_mul, e_quo, e_rem, e_and, e_or, e_xor, e_shl, e_shr, e_eql, e_neq, e_lss, e_leq, e_gtr, e_geq, e_beq, e_bne, e_peq1, e_peq2, e_pne1, e_pne2, e_zeq1, e_zeq2, e_zne1, e_zne2, e_feq1, e_fne1, e_feq2, e_fne2, e_seq, e_sne, e_ta1, e_ta2, Nat.zero_add, Nat.add_zero, Bool.not_true, Bool.not_false]
    case true => exact p18 true
    cases hC : (q.op == 4) <;> simp only [e_fd, e_nck, e_pkt, e_pkf, e_gdtt, e_gdtf, e_gdft, e_gdff, e_ift, e_iff, e_not, e_ln, e_lnT, e_cp, e_cvi, e_ex20, e_ex21, e_ex30, e_ex31, e_ex32, e_add, e_sub, e_mul, e_quo, e_rem, e_and, e_or, e_xor, e_shl, e_shr, e_eql, e_neq, e_lss, e_leq, e_gtr, e_geq, e_beq, e_bne, e_peq1, e_peq2, e_pne1, e_pne2, e_zeq1, e_zeq2, e_zne1, e_zne2, e_feq1, e_fne1, e_feq2, e_fne2, e_seq, e_sne, e_ta1, e_ta2, Nat.zero_add, Nat.add_zero, Bool.not_true, Bool.not_false]
    case true => exact p18 true
    cases hD : (q.op == 7) <;> simp only [e_fd, e_nck, e_pkt, e_pkf, e_gdtt, e_gdtf, e_gdft, e_gdff, e_ift, e_iff, e_not, e_ln, e_lnT, e_cp, e_cvi, e_ex20, e_ex21, e_ex30, e_ex31, e_ex32, e_add, e_sub, e_mul, e_quo, e_rem, e_and, e_or, e_xor, e_shl, e_shr, e_eql, e_neq, e_lss, e_leq, e_gtr, e_geq, e_beq, e_bne, e_peq1, e_peq2, e_pne1, e_pne2, e_zeq1, e_zeq2, e_zne1, e_zne2, e_feq1, e_fne1, e_feq2, e_fne2, e_seq, e_sne, e_ta1, e_ta2, Nat.zero_add, Nat.add_zero, Bool.not_true, Bool.not_false]
    case true => exact p18 true
    cases hE : (q.op == 8) <;> simp only [e_fd, e_nck, e_pkt, e_pkf, e_gdtt, e_gdtf, e_gdft, e_gdff, e_ift, e_iff, e_not, e_ln, e_lnT, e_cp, e_cvi, e_ex20, e_ex21, e_ex30, e_ex31, e_ex32, e_add, e_sub, e_mul, e_quo, e_rem, e_and, e_or, e_xor, e_shl, e_shr, e_eql, e_neq, e_lss, e_leq, e_gtr, e_geq, e_beq, e_bne, e_peq1, e_peq2, e_pne1, e_pne2, e_zeq1, e_zeq2, e_zne1, e_zne2, e_feq1, e_fne1, e_feq2, e_fne2, e_seq, e_sne, e_ta1, e_ta2, Nat.zero_add, Nat.add_zero, Bool.not_true, Bool.not_false]
    case true => exact p18 true
    cases hG : (q.op == 16) <;> simp only [e_fd, e_nck, e_pkt, e_pkf, e_gdtt, e_gdtf, e_gdft, e_gdff, e_ift, e_iff, e_not, e_ln, e_lnT, e_cp, e_cvi, e_ex20, e_ex21, e_ex30, e_ex31, e_ex32, e_add, e_sub, e_mul, e_quo, e_rem, e_and, e_or, e_xor, e_shl, e_shr, e_eql, e_neq, e_lss, e_leq, e_gtr, e_geq, e_beq, e_bne, e_peq1, e_peq2, e_pne1, e_pne2, e_zeq1, e_zeq2, e_zne1, e_zne2, e_feq1, e_fne1, e_feq2, e_fne2, e_seq, e_sne, e_ta1, e_ta2, Nat.zero_add, Nat.add_zero, Bool.not_true, Bool.not_false]
    case true => exact p18 true
    exact p18 _
  have p24 : ∀ c : Bool, s69_p24 K (P w.heap.size 0) (P w1.heap.size 0) (U8 q.op) (.bool c) w4 := by
    intro c
    unfold s69_p24
    cases c with
    | true => exact sw_t (fr2 h5 ha hF hN (Nat.le_refl _) (by omega) hK)
    | false =>
      refine sw_f ?_
      unfold s69_p23 s69_p22
      exact sw_c (X := fun w => s69_p3 K _ _ w) (A := fun w => s69_p21 K _ _ _ w) (fun _ => fr3 h5 ha hF hN (Nat.le_refl _) (by omega) hK) fun _ => p21
  try simp only [e_fd, e_nck, e_pkt, e_pkf, e_gdtt, e_gdtf, e_gdft, e_gdff, e_ift, e_iff, e_not, e_ln, e_lnT, e_cp, e_cvi, e_ex20, e_ex21, e_ex30, e_ex31, e_ex32, e_add, e_sub, e_mul, e_quo, e_rem, e_and, e_or, e_xor, e_shl, e_shr, e_eql, e_neq, e_lss, e_leq, e_gtr, e_geq, e_beq, e_bne, e_peq1, e_peq2, e_pne1, e_pne2, e_zeq1, e_zeq2, e_zne1, e_zne2, e_feq1, e_fne1, e_feq2, e_fne2, e_seq, e_sne, e_ta1, e_ta2, Nat.zero_add, Nat.add_zero, Bool.not_true, Bool.not_false]
  cases hA : (q.op == 1) <;> simp only [e_fd, e_nck, e_pkt, e_pkf, e_gdtt, e_gdtf, e_gdft, e_gdff, e_ift, e_iff, e_not, e_ln, e_lnT, e_cp, e_cvi, e_ex20, e_ex21, e_ex30, e_ex31, e_ex32, e_add, e_sub, e_mul, e_quo, e_rem, e_and, e_or, e_xor, e_shl, e_shr, e_eql, e_neq, e_lss, e_leq, e_gtr, e_geq, e_beq, e_bne, e_peq1, e_peq2, e_pne1, e_pne2, e_zeq1, e_zeq2, e_zne1, e_zne2, e_feq1, e_fne1, e_feq2, e_fne2, e_seq, e_sne, e_ta1, e_ta2, Nat.zero_add, Nat.add_zero, Bool.not_true, Bool.not_false]
  case true => exact p24 true
  exact p24 _
end
end Go.Proofs.Qxb6500896aGreatDoor
