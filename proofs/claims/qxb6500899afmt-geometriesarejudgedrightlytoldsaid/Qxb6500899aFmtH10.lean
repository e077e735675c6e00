import Derived.Test.Qxb6500899aFmtH9
namespace Go.Proofs.Qxb6500899aFmt
open Go.Sh Go.RowKit
set_option linter.unusedVariables false
set_option linter.unusedSimpArgs false

section
variable {W w w' w1 : World} {K : Value → World → Prop} {B1 : List Value → World → Prop} {s n c sec : Nat} {db mb cb mm cm ob gb : Nat} {r ch sh mk : Int} {tk v t20 t21 : Value} {b : Nat} {oc : List Value}
theorem p5_ok {b1 b2 : Nat} (h : Dk w db mb cb mm cm s n c r ch sh mk tk) (hg : good s n c) (hsec : sec < 18446744073709551616) (ro : Row w ob 31 oc) (ho : oc[1]? = some (U64 (sec : Nat))) (rg : Row w gb 29 [U32 (s : Nat), U64 (n : Nat), U32 (c : Nat)]) (r1 : Row w b1 5 (zeros s)) (r2 : Row w b2 5 (zeros s)) (hne : b1 ≠ b2)
    (hK : ∀ w', Kp (fun k => k = db ∨ k = b1) w w' → s3_p2 K B1 v t20 t21 w') : s3_p5 K B1 (P ob 0) (P gb 0) (P db 0) (.slice (some ⟨b1, 0, none⟩) s s) (.slice (some ⟨b2, 0, none⟩) s s) v t20 t21 w := by
  obtain ⟨⟨h16, h65⟩, _, ⟨hn1, hn2⟩, _⟩ := id hg
  unfold s3_p5 s3_p5_d
  have kd : Kp (fun _ => False) w (drw w) := kp_drw
  generalize drw w = w1 at kd ⊢
  have h1 := h.kp' kd
  have ro1 := kd.row' ro
  have rg1 := kd.row' rg
  try simp only [e_fd, e_nck, e_pkt, e_pkf, e_gdtt, e_gdtf, e_gdft, e_gdff, e_ift, e_iff, e_not, e_ln, e_lnT, e_cp, e_cvi, e_ex20, e_ex21, e_ex30, e_ex31, e_ex32, e_add, e_sub, e_mul, e_quo, e_rem, e_and, e_or, e_xor, e_shl, e_shr, e_eql, e_neq, e_lss, e_leq, e_gtr, e_geq, e_beq, e_bne, e_peq1, e_peq2, e_pne1, e_pne2, e_zeq1, e_zeq2, e_zne1, e_zne2, e_feq1, e_fne1, e_feq2, e_fne2, e_seq, e_sne, e_ta1, e_ta2, Nat.zero_add, Nat.add_zero, Bool.not_true, Bool.not_false]
  refine ld1_r rg1 rfl ?_
  try simp only [e_fd, e_nck, e_pkt, e_pkf, e_gdtt, e_gdtf, e_gdft, e_gdff, e_ift, e_iff, e_not, e_ln, e_lnT, e_cp, e_cvi, e_ex20, e_ex21, e_ex30, e_ex31, e_ex32, e_add, e_sub, e_mul, e_quo, e_rem, e_and, e_or, e_xor, e_shl, e_shr, e_eql, e_neq, e_lss, e_leq, e_gtr, e_geq, e_beq, e_bne, e_peq1, e_peq2, e_pne1, e_pne2, e_zeq1, e_zeq2, e_zne1, e_zne2, e_feq1, e_fne1, e_feq2, e_fne2, e_seq, e_sne, e_ta1, e_ta2, Nat.zero_add, Nat.add_zero, Bool.not_true, Bool.not_false]
  refine ⟨by decide, ?_⟩
  try simp only [e_fd, e_nck, e_pkt, e_pkf, e_gdtt, e_gdtf, e_gdft, e_gdff, e_ift, e_iff, e_not, e_ln, e_lnT, e_cp, e_cvi, e_ex20, e_ex21, e_ex30, e_ex31, e_ex32, e_add, e_sub, e_mul, e_quo, e_rem, e_and, e_or, e_xor, e_shl, e_shr, e_eql, e_neq, e_lss, e_leq, e_gtr, e_geq, e_beq, e_bne, e_peq1, e_peq2, e_pne1, e_pne2, e_zeq1, e_zeq2, e_zne1, e_zne2, e_feq1, e_fne1, e_feq2, e_fne2, e_seq, e_sne, e_ta1, e_ta2, Nat.zero_add, Nat.add_zero, Bool.not_true, Bool.not_false]
  refine ld1_r rg1 rfl ?_
  try simp only [e_fd, e_nck, e_pkt, e_pkf, e_gdtt, e_gdtf, e_gdft, e_gdff, e_ift, e_iff, e_not, e_ln, e_lnT, e_cp, e_cvi, e_ex20, e_ex21, e_ex30, e_ex31, e_ex32, e_add, e_sub, e_mul, e_quo, e_rem, e_and, e_or, e_xor, e_shl, e_shr, e_eql, e_neq, e_lss, e_leq, e_gtr, e_geq, e_beq, e_bne, e_peq1, e_peq2, e_pne1, e_pne2, e_zeq1, e_zeq2, e_zne1, e_zne2, e_feq1, e_fne1, e_feq2, e_fne2, e_seq, e_sne, e_ta1, e_ta2, Nat.zero_add, Nat.add_zero, Bool.not_true, Bool.not_false]
  refine ld1_r ro1 ho ?_
  try simp only [e_fd, e_nck, e_pkt, e_pkf, e_gdtt, e_gdtf, e_gdft, e_gdff, e_ift, e_iff, e_not, e_ln, e_lnT, e_cp, e_cvi, e_ex20, e_ex21, e_ex30, e_ex31, e_ex32, e_add, e_sub, e_mul, e_quo, e_rem, e_and, e_or, e_xor, e_shl, e_shr, e_eql, e_neq, e_lss, e_leq, e_gtr, e_geq, e_beq, e_bne, e_peq1, e_peq2, e_pne1, e_pne2, e_zeq1, e_zeq2, e_zne1, e_zne2, e_feq1, e_fne1, e_feq2, e_fne2, e_seq, e_sne, e_ta1, e_ta2, Nat.zero_add, Nat.add_zero, Bool.not_true, Bool.not_false]
  refine ld1_r rg1 rfl ?_
  try simp only [e_fd, e_nck, e_pkt, e_pkf, e_gdtt, e_gdtf, e_gdft, e_gdff, e_ift, e_iff, e_not, e_ln, e_lnT, e_cp, e_cvi, e_ex20, e_ex21, e_ex30, e_ex31, e_ex32, e_add, e_sub, e_mul, e_quo, e_rem, e_and, e_or, e_xor, e_shl, e_shr, e_eql, e_neq, e_lss, e_leq, e_gtr, e_geq, e_beq, e_bne, e_peq1, e_peq2, e_pne1, e_pne2, e_zeq1, e_zeq2, e_zne1, e_zne2, e_feq1, e_fne1, e_feq2, e_fne2, e_seq, e_sne, e_ta1, e_ta2, Nat.zero_add, Nat.add_zero, Bool.not_true, Bool.not_false]
  refine ⟨by omega, ?_⟩
  have e1 : IntKind.u64.wrap (((n : Nat) : Int).tdiv 2) = ((n / 2 : Nat) : Int) := by
    rw [Int.tdiv_eq_ediv_of_nonneg (by omega), wrapu64]; omega
  have e2 : IntKind.u64.wrap (((n : Nat) : Int) - 1) = ((n - 1 : Nat) : Int) := by rw [wrapu64]; omega
  have e3 : ((sec : Nat) : Int).tmod ((n : Nat) : Int) = ((sec % n : Nat) : Int) := by
    rw [Int.tmod_eq_emod_of_nonneg (by omega)]; exact (Int.natCast_emod _ _).symm
  rw [e1, e2, e3]
  refine bsq_r (l := [U64 ((0 : Nat) : Int), U64 ((n / 2 : Nat) : Int), U64 ((n - 1 : Nat) : Int), U64 ((sec % n : Nat) : Int)]) rfl fun w2 r3 hk2 hz2 => ?_
  try simp only [e_fd, e_nck, e_pkt, e_pkf, e_gdtt, e_gdtf, e_gdft, e_gdff, e_ift, e_iff, e_not, e_ln, e_lnT, e_cp, e_cvi, e_ex20, e_ex21, e_ex30, e_ex31, e_ex32, e_add, e_sub, e_mul, e_quo, e_rem, e_and, e_or, e_xor, e_shl, e_shr, e_eql, e_neq, e_lss, e_leq, e_gtr, e_geq, e_beq, e_bne, e_peq1, e_peq2, e_pne1, e_pne2, e_zeq1, e_zeq2, e_zne1, e_zne2, e_feq1, e_fne1, e_feq2, e_fne2, e_seq, e_sne, e_ta1, e_ta2, Nat.zero_add, Nat.add_zero, Bool.not_true, Bool.not_false]
  have k2 := kd.trans hk2
  have hm : sec % n < n := Nat.mod_lt _ (by omega)
  refine reads_ok (xs := [0, n / 2, n - 1, sec % n]) (h1.kp' hk2) hg (k2.row' r1) (k2.row' r2) hne r3 (by
    intro x hx
    simp only [List.mem_cons, List.not_mem_nil, or_false] at hx
    rcases hx with rfl | rfl | rfl | rfl <;> omega) rfl fun w3 hk3 => ?_
  exact hK w3 (k2.none.trans hk3)
theorem p6_ok (h : Dk w db mb cb mm cm s n c r ch sh mk tk) (hg : good s n c) (hsec : sec < 18446744073709551616) (ro : Row w ob 31 oc) (ho : oc[1]? = some (U64 (sec : Nat))) (rg : Row w gb 29 [U32 (s : Nat), U64 (n : Nat), U32 (c : Nat)])
    (hK : ∀ w', Kp (fun k => k = db) w w' → s3_p2 K B1 v t20 t21 w') : s3_p6 K B1 (P ob 0) (P gb 0) (P db 0) v t20 t21 w := by
  obtain ⟨⟨h16, h65⟩, _, ⟨hn1, hn2⟩, _⟩ := id hg
  unfold s3_p6 s3_p6_d
  have kd : Kp (fun _ => False) w (drw w) := kp_drw
  generalize drw w = w1 at kd ⊢
  have h1 := h.kp' kd
  have ro1 := kd.row' ro
  have rg1 := kd.row' rg
  try simp only [e_fd, e_nck, e_pkt, e_pkf, e_gdtt, e_gdtf, e_gdft, e_gdff, e_ift, e_iff, e_not, e_ln, e_lnT, e_cp, e_cvi, e_ex20, e_ex21, e_ex30, e_ex31, e_ex32, e_add, e_sub, e_mul, e_quo, e_rem, e_and, e_or, e_xor, e_shl, e_shr, e_eql, e_neq, e_lss, e_leq, e_gtr, e_geq, e_beq, e_bne, e_peq1, e_peq2, e_pne1, e_pne2, e_zeq1, e_zeq2, e_zne1, e_zne2, e_feq1, e_fne1, e_feq2, e_fne2, e_seq, e_sne, e_ta1, e_ta2, Nat.zero_add, Nat.add_zero, Bool.not_true, Bool.not_false]
  refine ld1_r rg1 rfl ?_
  try simp only [e_fd, e_nck, e_pkt, e_pkf, e_gdtt, e_gdtf, e_gdft, e_gdff, e_ift, e_iff, e_not, e_ln, e_lnT, e_cp, e_cvi, e_ex20, e_ex21, e_ex30, e_ex31, e_ex32, e_add, e_sub, e_mul, e_quo, e_rem, e_and, e_or, e_xor, e_shl, e_shr, e_eql, e_neq, e_lss, e_leq, e_gtr, e_geq, e_beq, e_bne, e_peq1, e_peq2, e_pne1, e_pne2, e_zeq1, e_zeq2, e_zne1, e_zne2, e_feq1, e_fne1, e_feq2, e_fne2, e_seq, e_sne, e_ta1, e_ta2, Nat.zero_add, Nat.add_zero, Bool.not_true, Bool.not_false]
  refine ld1_r rg1 rfl ?_
  have two : ∀ (w2 w3 : World) (x y : Nat), Kp (fun _ => False) w1 w2 → w1.heap.size ≤ x → Row w2 x 5 (zeros s) → w2.heap.size ≤ y → Row w3 y 5 (zeros s) → Kp (fun _ => False) w2 w3 → s3_p5 K B1 (P ob 0) (P gb 0) (P db 0) (.slice (some ⟨x, 0, none⟩) s s) (.slice (some ⟨y, 0, none⟩) s s) v t20 t21 w3 ∧ s3_p5 K B1 (P ob 0) (P gb 0) (P db 0) (.slice (some ⟨y, 0, none⟩) s s) (.slice (some ⟨x, 0, none⟩) s s) v t20 t21 w3 := by
    intro w2 w3 x y k2 hx rx hy ry k3
    have k13 := k2.trans k3
    have lx := rx.lt
    have sz := kd.size
    have sz2 := k2.size
    refine ⟨p5_ok (h1.kp' k13) hg hsec (k13.row' ro1) ho (k13.row' rg1) (k3.row' rx) ry (by omega) fun w4 hk4 => hK w4 ?_, p5_ok (h1.kp' k13) hg hsec (k13.row' ro1) ho (k13.row' rg1) ry (k3.row' rx) (by omega) fun w4 hk4 => hK w4 ?_⟩
    · exact (kd.trans k13).none.then hk4 (fun k hk q => q.elim (fun e => e) (fun e => by omega))
    · exact (kd.trans k13).none.then hk4 (fun k hk q => q.elim (fun e => e) (fun e => by omega))
  refine ⟨?_, ?_⟩
  · refine mks_r (n := s) (by omega) (by omega) fun w2 r2 hk2 hz2 => ⟨hk2.below', ?_⟩
    have hh : ∀ w3, Row w3 w2.heap.size 5 (zeros s) → Kp (fun _ => False) w2 w3 → s3_p5 K B1 (P ob 0) (P gb 0) (P db 0) (.slice (some ⟨w1.heap.size, 0, none⟩) s s) (.slice (some ⟨w2.heap.size, 0, none⟩) s s) v t20 t21 w3 := fun w3 r3 hk3 => (two w2 w3 _ _ hk2 (Nat.le_refl _) r2 (Nat.le_refl _) r3 hk3).1
    refine ⟨?_, hk2.below', ?_⟩
    · refine mks_r (n := s) (by omega) (by omega) fun w3 r3 hk3 hz3 => ⟨(hk2.trans hk3).below', (hk2.trans hk3).below', hh w3 r3 hk3⟩
    · refine mks_r (n := s) (by omega) (by omega) fun w3 r3 hk3 hz3 => ⟨(hk2.trans hk3).below', hh w3 r3 hk3⟩
  · refine mks_r (n := s) (by omega) (by omega) fun w2 r2 hk2 hz2 => ⟨hk2.below', ?_⟩
    refine mks_r (n := s) (by omega) (by omega) fun w3 r3 hk3 hz3 => ⟨(hk2.trans hk3).below', (hk2.trans hk3).below', ?_⟩
    exact (two w2 w3 _ _ hk2 (Nat.le_refl _) r2 (Nat.le_refl _) r3 hk3).2
theorem p8_ok (h : Dk w db mb cb mm cm s n c r ch sh mk tk) (hg : good s n c) (hsec : sec < 18446744073709551616) (ro : Row w ob 31 oc) (ho : oc[1]? = some (U64 (sec : Nat))) (rg : Row w gb 29 [U32 (s : Nat), U64 (n : Nat), U32 (c : Nat)])
    (hK : ∀ w', Kp (fun k => k = db) w w' → s3_p2 K B1 v t20 t21 w') : s3_p8 K B1 (P ob 0) (P gb 0) (P db 0) .nilIface v t20 t21 w := by
  unfold s3_p8 s3_p8_d
  have kd : Kp (fun _ => False) w (drw w) := kp_drw
  generalize drw w = w1 at kd ⊢
  have h1 := h.kp' kd
  have ro1 := kd.row' ro
  have rg1 := kd.row' rg
  try simp only [e_fd, e_nck, e_pkt, e_pkf, e_gdtt, e_gdtf, e_gdft, e_gdff, e_ift, e_iff, e_not, e_ln, e_lnT, e_cp, e_cvi, e_ex20, e_ex21, e_ex30, e_ex31, e_ex32, e_add, e_sub, e_mul, e_quo, e_rem, e_and, e_or, e_xor, e_shl, e_shr, e_eql, e_neq, e_lss, e_leq, e_gtr, e_geq, e_beq, e_bne, e_peq1, e_peq2, e_pne1, e_pne2, e_zeq1, e_zeq2, e_zne1, e_zne2, e_feq1, e_fne1, e_feq2, e_fne2, e_seq, e_sne, e_ta1, e_ta2, Nat.zero_add, Nat.add_zero, Bool.not_true, Bool.not_false]
  refine ldn_r rg1 (show 0 + 3 ≤ 3 by decide) ?_
  refine geometry_ok h1 fun w2 hk2 => ⟨hk2.below', ?_⟩
  refine neq29 ?_
  have h2 := h1.kp' hk2
  try simp only [e_fd, e_nck, e_pkt, e_pkf, e_gdtt, e_gdtf, e_gdft, e_gdff, e_ift, e_iff, e_not, e_ln, e_lnT, e_cp, e_cvi, e_ex20, e_ex21, e_ex30, e_ex31, e_ex32, e_add, e_sub, e_mul, e_quo, e_rem, e_and, e_or, e_xor, e_shl, e_shr, e_eql, e_neq, e_lss, e_leq, e_gtr, e_geq, e_beq, e_bne, e_peq1, e_peq2, e_pne1, e_pne2, e_zeq1, e_zeq2, e_zne1, e_zne2, e_feq1, e_fne1, e_feq2, e_fne2, e_seq, e_sne, e_ta1, e_ta2, Nat.zero_add, Nat.add_zero, Bool.not_true, Bool.not_false]
  refine powered_ok h2 ?_
  try simp only [e_fd, e_nck, e_pkt, e_pkf, e_gdtt, e_gdtf, e_gdft, e_gdff, e_ift, e_iff, e_not, e_ln, e_lnT, e_cp, e_cvi, e_ex20, e_ex21, e_ex30, e_ex31, e_ex32, e_add, e_sub, e_mul, e_quo, e_rem, e_and, e_or, e_xor, e_shl, e_shr, e_eql, e_neq, e_lss, e_leq, e_gtr, e_geq, e_beq, e_bne, e_peq1, e_peq2, e_pne1, e_pne2, e_zeq1, e_zeq2, e_zne1, e_zne2, e_feq1, e_fne1, e_feq2, e_fne2, e_seq, e_sne, e_ta1, e_ta2, Nat.zero_add, Nat.add_zero, Bool.not_true, Bool.not_false]
  refine pending_ok h2 fun w3 hk3 => ?_
  have h3 := h2.kp' hk3
  have e0 : ((0 : Int) != 0) = false := rfl
  simp only [e0, e_fd, e_nck, e_pkt, e_pkf, e_gdtt, e_gdtf, e_gdft, e_gdff, e_ift, e_iff, e_not, e_ln, e_lnT, e_cp, e_cvi, e_ex20, e_ex21, e_ex30, e_ex31, e_ex32, e_add, e_sub, e_mul, e_quo, e_rem, e_and, e_or, e_xor, e_shl, e_shr, e_eql, e_neq, e_lss, e_leq, e_gtr, e_geq, e_beq, e_bne, e_peq1, e_peq2, e_pne1, e_pne2, e_zeq1, e_zeq2, e_zne1, e_zne2, e_feq1, e_fne1, e_feq2, e_fne2, e_seq, e_sne, e_ta1, e_ta2, Nat.zero_add, Nat.add_zero, Bool.not_true, Bool.not_false]
  unfold s3_p7
  try simp only [e_fd, e_nck, e_pkt, e_pkf, e_gdtt, e_gdtf, e_gdft, e_gdff, e_ift, e_iff, e_not, e_ln, e_lnT, e_cp, e_cvi, e_ex20, e_ex21, e_ex30, e_ex31, e_ex32, e_add, e_sub, e_mul, e_quo, e_rem, e_and, e_or, e_xor, e_shl, e_shr, e_eql, e_neq, e_lss, e_leq, e_gtr, e_geq, e_beq, e_bne, e_peq1, e_peq2, e_pne1, e_pne2, e_zeq1, e_zeq2, e_zne1, e_zne2, e_feq1, e_fne1, e_feq2, e_fne2, e_seq, e_sne, e_ta1, e_ta2, Nat.zero_add, Nat.add_zero, Bool.not_true, Bool.not_false]
  refine fuse_ok h3 fun w4 k4 hk4 => ?_
  try simp only [e_fd, e_nck, e_pkt, e_pkf, e_gdtt, e_gdtf, e_gdft, e_gdff, e_ift, e_iff, e_not, e_ln, e_lnT, e_cp, e_cvi, e_ex20, e_ex21, e_ex30, e_ex31, e_ex32, e_add, e_sub, e_mul, e_quo, e_rem, e_and, e_or, e_xor, e_shl, e_shr, e_eql, e_neq, e_lss, e_leq, e_gtr, e_geq, e_beq, e_bne, e_peq1, e_peq2, e_pne1, e_pne2, e_zeq1, e_zeq2, e_zne1, e_zne2, e_feq1, e_fne1, e_feq2, e_fne2, e_seq, e_sne, e_ta1, e_ta2, Nat.zero_add, Nat.add_zero, Bool.not_true, Bool.not_false]
  have k14 := (hk2.trans hk3).trans hk4
  refine p6_ok (h3.kp' hk4) hg hsec (k14.row' ro1) ho (k14.row' rg1) fun w5 hk5 => ?_
  exact hK w5 ((kd.trans k14).none.trans hk5)
end

theorem law3 {W : World} {v : Value} {xs : List Op} (hs : Scr W v xs) (hg : Han W) : cl Tryf.prog 3 #[v] (fun r w' => r = .bool true ∧ Below W.heap.size W w') W := by
  have hxn := hs.len
  apply c3
  unfold s3_p12
  refine small_ok hs (Below.refl _ _) fun r => ?_
  try simp only [e_fd, e_nck, e_pkt, e_pkf, e_gdtt, e_gdtf, e_gdft, e_gdff, e_ift, e_iff, e_not, e_ln, e_lnT, e_cp, e_cvi, e_ex20, e_ex21, e_ex30, e_ex31, e_ex32, e_add, e_sub, e_mul, e_quo, e_rem, e_and, e_or, e_xor, e_shl, e_shr, e_eql, e_neq, e_lss, e_leq, e_gtr, e_geq, e_beq, e_bne, e_peq1, e_peq2, e_pne1, e_pne2, e_zeq1, e_zeq2, e_zne1, e_zne2, e_feq1, e_fne1, e_feq2, e_fne2, e_seq, e_sne, e_ta1, e_ta2, Nat.zero_add, Nat.add_zero, Bool.not_true, Bool.not_false]
  cases r with
  | false =>
    simp only [Bool.not_false, e_fd, e_nck, e_pkt, e_pkf, e_gdtt, e_gdtf, e_gdft, e_gdff, e_ift, e_iff, e_not, e_ln, e_lnT, e_cp, e_cvi, e_ex20, e_ex21, e_ex30, e_ex31, e_ex32, e_add, e_sub, e_mul, e_quo, e_rem, e_and, e_or, e_xor, e_shl, e_shr, e_eql, e_neq, e_lss, e_leq, e_gtr, e_geq, e_beq, e_bne, e_peq1, e_peq2, e_pne1, e_pne2, e_zeq1, e_zeq2, e_zne1, e_zne2, e_feq1, e_fne1, e_feq2, e_fne2, e_seq, e_sne, e_ta1, e_ta2, Nat.zero_add, Nat.add_zero, Bool.not_true, Bool.not_false]
    exact ⟨trivial, Below.refl _ _⟩
  | true =>
    simp only [Bool.not_true, e_fd, e_nck, e_pkt, e_pkf, e_gdtt, e_gdtf, e_gdft, e_gdff, e_ift, e_iff, e_not, e_ln, e_lnT, e_cp, e_cvi, e_ex20, e_ex21, e_ex30, e_ex31, e_ex32, e_add, e_sub, e_mul, e_quo, e_rem, e_and, e_or, e_xor, e_shl, e_shr, e_eql, e_neq, e_lss, e_leq, e_gtr, e_geq, e_beq, e_bne, e_peq1, e_peq2, e_pne1, e_pne2, e_zeq1, e_zeq2, e_zne1, e_zne2, e_feq1, e_fne1, e_feq2, e_fne2, e_seq, e_sne, e_ta1, e_ta2, Nat.zero_add, Nat.add_zero, Bool.not_true, Bool.not_false]
    refine hs.ln ?_
    unfold s3_p11
    refine ⟨fun m l w' => ∃ i : Nat, i ≤ xs.length ∧ m = xs.length - i ∧ l = [v, I xs.length, I i] ∧ Kp (fun _ => False) W w',
      xs.length, ⟨0, by omega, by omega, rfl, Kp.refl _ _⟩, ?_⟩
    rintro m l w2 ⟨i, hi, hm, rfl, hk2⟩
    rw [s3_p11_Fe]
    have hb2 : Below W.heap.size W w2 := hk2.below'
    unfold s3_p10
    try simp only [e_fd, e_nck, e_pkt, e_pkf, e_gdtt, e_gdtf, e_gdft, e_gdff, e_ift, e_iff, e_not, e_ln, e_lnT, e_cp, e_cvi, e_ex20, e_ex21, e_ex30, e_ex31, e_ex32, e_add, e_sub, e_mul, e_quo, e_rem, e_and, e_or, e_xor, e_shl, e_shr, e_eql, e_neq, e_lss, e_leq, e_gtr, e_geq, e_beq, e_bne, e_peq1, e_peq2, e_pne1, e_pne2, e_zeq1, e_zeq2, e_zne1, e_zne2, e_feq1, e_fne1, e_feq2, e_fne2, e_seq, e_sne, e_ta1, e_ta2, Nat.zero_add, Nat.add_zero, Bool.not_true, Bool.not_false]
    by_cases hlt : i < xs.length
    · have hlt' : (i : Int) < (xs.length : Int) := by omega
      simp only [hlt', decide_true, e_fd, e_nck, e_pkt, e_pkf, e_gdtt, e_gdtf, e_gdft, e_gdff, e_ift, e_iff, e_not, e_ln, e_lnT, e_cp, e_cvi, e_ex20, e_ex21, e_ex30, e_ex31, e_ex32, e_add, e_sub, e_mul, e_quo, e_rem, e_and, e_or, e_xor, e_shl, e_shr, e_eql, e_neq, e_lss, e_leq, e_gtr, e_geq, e_beq, e_bne, e_peq1, e_peq2, e_pne1, e_pne2, e_zeq1, e_zeq2, e_zne1, e_zne2, e_feq1, e_fne1, e_feq2, e_fne2, e_seq, e_sne, e_ta1, e_ta2, Nat.zero_add, Nat.add_zero, Bool.not_true, Bool.not_false]
      unfold s3_p9
      refine hs.ix hlt fun bb o hc hok => ?_
      have next : ∀ w', Kp (fun _ => False) W w' → s3_p2 (fun r w' => r = .bool true ∧ Below W.heap.size W w') (fun l' w' => ∃ m', m' < m ∧ ∃ i : Nat, i ≤ xs.length ∧ m' = xs.length - i ∧ l' = [v, I xs.length, I i] ∧ Kp (fun _ => False) W w') v (I xs.length) (I i) w' := by
        intro w' hw'
        unfold s3_p2
        try simp only [e_fd, e_nck, e_pkt, e_pkf, e_gdtt, e_gdtf, e_gdft, e_gdff, e_ift, e_iff, e_not, e_ln, e_lnT, e_cp, e_cvi, e_ex20, e_ex21, e_ex30, e_ex31, e_ex32, e_add, e_sub, e_mul, e_quo, e_rem, e_and, e_or, e_xor, e_shl, e_shr, e_eql, e_neq, e_lss, e_leq, e_gtr, e_geq, e_beq, e_bne, e_peq1, e_peq2, e_pne1, e_pne2, e_zeq1, e_zeq2, e_zne1, e_zne2, e_feq1, e_fne1, e_feq2, e_fne2, e_seq, e_sne, e_ta1, e_ta2, Nat.zero_add, Nat.add_zero, Bool.not_true, Bool.not_false]
        rw [wrap64_id (by omega) (by omega)]
        exact ⟨xs.length - (i + 1), by omega, i + 1, by omega, rfl, by simp, hw'⟩
      generalize xs[i] = x at hc hok
      refine (hc.below hb2).ldn rfl ?_
      refine nw_r fun w3 r3 hk3 hz3 => ?_
      refine stn_r (cs := x.cs) r3 rfl (show 0 + 9 ≤ 9 by decide) x.sc fun w4 r4 hk4 hz4 => ?_
      replace r4 : Row w4 w2.heap.size 31 x.cs := by
        have e : List.take 0 ([] : List Value) ++ (x.cs ++ []) = x.cs := by simp
        exact r4
      have k4 : Kp (fun _ => False) W w4 := hk2.trans (hk3.then hk4 (by intro y hy (e : y = _); omega))
      try simp only [e_fd, e_nck, e_pkt, e_pkf, e_gdtt, e_gdtf, e_gdft, e_gdff, e_ift, e_iff, e_not, e_ln, e_lnT, e_cp, e_cvi, e_ex20, e_ex21, e_ex30, e_ex31, e_ex32, e_add, e_sub, e_mul, e_quo, e_rem, e_and, e_or, e_xor, e_shl, e_shr, e_eql, e_neq, e_lss, e_leq, e_gtr, e_geq, e_beq, e_bne, e_peq1, e_peq2, e_pne1, e_pne2, e_zeq1, e_zeq2, e_zne1, e_zne2, e_feq1, e_fne1, e_feq2, e_fne2, e_seq, e_sne, e_ta1, e_ta2, Nat.zero_add, Nat.add_zero, Bool.not_true, Bool.not_false]
      refine ld1_r (v := U8 x.kind) r4 rfl ?_
      try simp only [e_fd, e_nck, e_pkt, e_pkf, e_gdtt, e_gdtf, e_gdft, e_gdff, e_ift, e_iff, e_not, e_ln, e_lnT, e_cp, e_cvi, e_ex20, e_ex21, e_ex30, e_ex31, e_ex32, e_add, e_sub, e_mul, e_quo, e_rem, e_and, e_or, e_xor, e_shl, e_shr, e_eql, e_neq, e_lss, e_leq, e_gtr, e_geq, e_beq, e_bne, e_peq1, e_peq2, e_pne1, e_pne2, e_zeq1, e_zeq2, e_zne1, e_zne2, e_feq1, e_fne1, e_feq2, e_fne2, e_seq, e_sne, e_ta1, e_ta2, Nat.zero_add, Nat.add_zero, Bool.not_true, Bool.not_false]
      by_cases hkd : x.kind = 0
      · have e1 : (x.kind != 0) = false := by rw [hkd]; rfl
        simp only [e1, e_fd, e_nck, e_pkt, e_pkf, e_gdtt, e_gdtf, e_gdft, e_gdff, e_ift, e_iff, e_not, e_ln, e_lnT, e_cp, e_cvi, e_ex20, e_ex21, e_ex30, e_ex31, e_ex32, e_add, e_sub, e_mul, e_quo, e_rem, e_and, e_or, e_xor, e_shl, e_shr, e_eql, e_neq, e_lss, e_leq, e_gtr, e_geq, e_beq, e_bne, e_peq1, e_peq2, e_pne1, e_pne2, e_zeq1, e_zeq2, e_zne1, e_zne2, e_feq1, e_fne1, e_feq2, e_fne2, e_seq, e_sne, e_ta1, e_ta2, Nat.zero_add, Nat.add_zero, Bool.not_true, Bool.not_false]
        refine ldn_r r4 (show 6 + 3 ≤ 9 by decide) ?_
        refine nw_r fun w5 r5 hk5 hz5 => ?_
        refine stn_r (cs := [U32 (x.s : Nat), U64 (x.n : Nat), U32 (x.c : Nat)]) r5 rfl (show 0 + 3 ≤ 3 by decide) rfl fun w6 r6 hk6 hz6 => ?_
        replace r6 : Row w6 w4.heap.size 29 [U32 (x.s : Nat), U64 (x.n : Nat), U32 (x.c : Nat)] := r6
        have k46 : Kp (fun _ => False) w4 w6 := hk5.then hk6 (by intro y hy (e : y = _); omega)
        have k6 := k4.trans k46
        have r46 := k46.row' r4
        have main : ∀ (g : Bool), (g = true ↔ good x.s x.n x.c) → ldn 3 (P w4.heap.size 0) (fun t68 w =>
            cl Tryf.prog 5 #[t68] (fun t69 w =>
            exq t69 0 (fun t70 w =>
            exq t69 1 (fun t71 w =>
            un .not (.bool g) (fun t73 w =>
            ifb t73
            (boP .neq t70 (.pointer none) (fun t75 w =>
            gd t75 false (fun K w => K t71 w) (fun t77 w =>
            gd t75 false (cl Tryf.prog 6 #[t77]) (fun t78 w =>
            gd t75 false (boI .neq t78 (.int .u8 1)) (fun t79 w =>
            pk t75 (.bool true) t79 (fun t80 w =>
            ifb t80
            ((fun (r : Value) (w' : World) => r = .bool true ∧ Below W.heap.size W w') (.bool false) w)
            (s3_p2 (fun r w' => r = .bool true ∧ Below W.heap.size W w') (fun l' w' => ∃ m', m' < m ∧ ∃ i : Nat, i ≤ xs.length ∧ m' = xs.length - i ∧ l' = [v, I xs.length, I i] ∧ Kp (fun _ => False) W w') v (I xs.length) (I i) w)) w) w) w) w) w)
            (s3_p8 (fun r w' => r = .bool true ∧ Below W.heap.size W w') (fun l' w' => ∃ m', m' < m ∧ ∃ i : Nat, i ≤ xs.length ∧ m' = xs.length - i ∧ l' = [v, I xs.length, I i] ∧ Kp (fun _ => False) W w') (P w2.heap.size 0) (P w4.heap.size 0) t70 t71 v (I xs.length) (I i) w)) w) w) w) w) w6 := by
          intro g hgd
          refine ldn_r r6 (show 0 + 3 ≤ 3 by decide) ?_
          refine new_ok hok.hs hok.hn hok.hc (fun hgood w7 db mb cb mm cm ch sh mk tk hk7 hD q1 q2 q3 q4 q5 => ?_) (fun hbad w7 ev hk7 he => ?_)
          · have : g = true := hgd.2 hgood
            subst this
            try simp only [e_fd, e_nck, e_pkt, e_pkf, e_gdtt, e_gdtf, e_gdft, e_gdff, e_ift, e_iff, e_not, e_ln, e_lnT, e_cp, e_cvi, e_ex20, e_ex21, e_ex30, e_ex31, e_ex32, e_add, e_sub, e_mul, e_quo, e_rem, e_and, e_or, e_xor, e_shl, e_shr, e_eql, e_neq, e_lss, e_leq, e_gtr, e_geq, e_beq, e_bne, e_peq1, e_peq2, e_pne1, e_pne2, e_zeq1, e_zeq2, e_zne1, e_zne2, e_feq1, e_fne1, e_feq2, e_fne2, e_seq, e_sne, e_ta1, e_ta2, Nat.zero_add, Nat.add_zero, Bool.not_true, Bool.not_false]
            have k7 := k6.trans hk7
            have sz := k6.size
            refine p8_ok hD hgood hok.hsec (hk7.row' r46) rfl (hk7.row' r6) fun w8 hk8 => ?_
            exact next w8 (k7.then hk8 (fun k hk (q : k = db) => by omega))
          · have : g = false := by
              cases g with
              | false => rfl
              | true => exact absurd (hgd.1 rfl) hbad
            subst this
            try simp only [e_fd, e_nck, e_pkt, e_pkf, e_gdtt, e_gdtf, e_gdft, e_gdff, e_ift, e_iff, e_not, e_ln, e_lnT, e_cp, e_cvi, e_ex20, e_ex21, e_ex30, e_ex31, e_ex32, e_add, e_sub, e_mul, e_quo, e_rem, e_and, e_or, e_xor, e_shl, e_shr, e_eql, e_neq, e_lss, e_leq, e_gtr, e_geq, e_beq, e_bne, e_peq1, e_peq2, e_pne1, e_pne2, e_zeq1, e_zeq2, e_zne1, e_zne2, e_feq1, e_fne1, e_feq2, e_fne2, e_seq, e_sne, e_ta1, e_ta2, Nat.zero_add, Nat.add_zero, Bool.not_true, Bool.not_false]
            have k7 := k6.trans hk7
            refine codeOf_ok (hg.kp k7 (fun q => q)) he fun w8 hk8 => ?_
            have e2 : ((1 : Int) != 1) = false := rfl
            simp only [e2, e_fd, e_nck, e_pkt, e_pkf, e_gdtt, e_gdtf, e_gdft, e_gdff, e_ift, e_iff, e_not, e_ln, e_lnT, e_cp, e_cvi, e_ex20, e_ex21, e_ex30, e_ex31, e_ex32, e_add, e_sub, e_mul, e_quo, e_rem, e_and, e_or, e_xor, e_shl, e_shr, e_eql, e_neq, e_lss, e_leq, e_gtr, e_geq, e_beq, e_bne, e_peq1, e_peq2, e_pne1, e_pne2, e_zeq1, e_zeq2, e_zne1, e_zne2, e_feq1, e_fne1, e_feq2, e_fne2, e_seq, e_sne, e_ta1, e_ta2, Nat.zero_add, Nat.add_zero, Bool.not_true, Bool.not_false]
            exact next w8 (k7.trans hk8)
        try simp only [e_fd, e_nck, e_pkt, e_pkf, e_gdtt, e_gdtf, e_gdft, e_gdff, e_ift, e_iff, e_not, e_ln, e_lnT, e_cp, e_cvi, e_ex20, e_ex21, e_ex30, e_ex31, e_ex32, e_add, e_sub, e_mul, e_quo, e_rem, e_and, e_or, e_xor, e_shl, e_shr, e_eql, e_neq, e_lss, e_leq, e_gtr, e_geq, e_beq, e_bne, e_peq1, e_peq2, e_pne1, e_pne2, e_zeq1, e_zeq2, e_zne1, e_zne2, e_feq1, e_fne1, e_feq2, e_fne2, e_seq, e_sne, e_ta1, e_ta2, Nat.zero_add, Nat.add_zero, Bool.not_true, Bool.not_false]
        refine ld1_r r6 rfl ?_
        try simp only [e_fd, e_nck, e_pkt, e_pkf, e_gdtt, e_gdtf, e_gdft, e_gdff, e_ift, e_iff, e_not, e_ln, e_lnT, e_cp, e_cvi, e_ex20, e_ex21, e_ex30, e_ex31, e_ex32, e_add, e_sub, e_mul, e_quo, e_rem, e_and, e_or, e_xor, e_shl, e_shr, e_eql, e_neq, e_lss, e_leq, e_gtr, e_geq, e_beq, e_bne, e_peq1, e_peq2, e_pne1, e_pne2, e_zeq1, e_zeq2, e_zne1, e_zne2, e_feq1, e_fne1, e_feq2, e_fne2, e_seq, e_sne, e_ta1, e_ta2, Nat.zero_add, Nat.add_zero, Bool.not_true, Bool.not_false]
        have nb : ∀ {p : Prop}, ¬ p → (p → good x.s x.n x.c → False) → True := fun _ _ => trivial
        have ngood : ¬ good x.s x.n x.c → (false = true ↔ good x.s x.n x.c) := fun h => ⟨fun e => (by cases e), fun q => absurd q h⟩
        by_cases h16 : 16 ≤ x.s
        · have e2 : (16 : Int) ≤ ((x.s : Nat) : Int) := by omega
          simp only [e2, decide_true, e_fd, e_nck, e_pkt, e_pkf, e_gdtt, e_gdtf, e_gdft, e_gdff, e_ift, e_iff, e_not, e_ln, e_lnT, e_cp, e_cvi, e_ex20, e_ex21, e_ex30, e_ex31, e_ex32, e_add, e_sub, e_mul, e_quo, e_rem, e_and, e_or, e_xor, e_shl, e_shr, e_eql, e_neq, e_lss, e_leq, e_gtr, e_geq, e_beq, e_bne, e_peq1, e_peq2, e_pne1, e_pne2, e_zeq1, e_zeq2, e_zne1, e_zne2, e_feq1, e_fne1, e_feq2, e_fne2, e_seq, e_sne, e_ta1, e_ta2, Nat.zero_add, Nat.add_zero, Bool.not_true, Bool.not_false]
          refine ld1_r r6 rfl ?_
          try simp only [e_fd, e_nck, e_pkt, e_pkf, e_gdtt, e_gdtf, e_gdft, e_gdff, e_ift, e_iff, e_not, e_ln, e_lnT, e_cp, e_cvi, e_ex20, e_ex21, e_ex30, e_ex31, e_ex32, e_add, e_sub, e_mul, e_quo, e_rem, e_and, e_or, e_xor, e_shl, e_shr, e_eql, e_neq, e_lss, e_leq, e_gtr, e_geq, e_beq, e_bne, e_peq1, e_peq2, e_pne1, e_pne2, e_zeq1, e_zeq2, e_zne1, e_zne2, e_feq1, e_fne1, e_feq2, e_fne2, e_seq, e_sne, e_ta1, e_ta2, Nat.zero_add, Nat.add_zero, Bool.not_true, Bool.not_false]
          by_cases h65 : x.s ≤ 65536
          · have e3 : ((x.s : Nat) : Int) ≤ 65536 := by omega
            simp only [e3, decide_true, e_fd, e_nck, e_pkt, e_pkf, e_gdtt, e_gdtf, e_gdft, e_gdff, e_ift, e_iff, e_not, e_ln, e_lnT, e_cp, e_cvi, e_ex20, e_ex21, e_ex30, e_ex31, e_ex32, e_add, e_sub, e_mul, e_quo, e_rem, e_and, e_or, e_xor, e_shl, e_shr, e_eql, e_neq, e_lss, e_leq, e_gtr, e_geq, e_beq, e_bne, e_peq1, e_peq2, e_pne1, e_pne2, e_zeq1, e_zeq2, e_zne1, e_zne2, e_feq1, e_fne1, e_feq2, e_fne2, e_seq, e_sne, e_ta1, e_ta2, Nat.zero_add, Nat.add_zero, Bool.not_true, Bool.not_false]
            refine ld1_r r6 rfl ?_
            try simp only [e_fd, e_nck, e_pkt, e_pkf, e_gdtt, e_gdtf, e_gdft, e_gdff, e_ift, e_iff, e_not, e_ln, e_lnT, e_cp, e_cvi, e_ex20, e_ex21, e_ex30, e_ex31, e_ex32, e_add, e_sub, e_mul, e_quo, e_rem, e_and, e_or, e_xor, e_shl, e_shr, e_eql, e_neq, e_lss, e_leq, e_gtr, e_geq, e_beq, e_bne, e_peq1, e_peq2, e_pne1, e_pne2, e_zeq1, e_zeq2, e_zne1, e_zne2, e_feq1, e_fne1, e_feq2, e_fne2, e_seq, e_sne, e_ta1, e_ta2, Nat.zero_add, Nat.add_zero, Bool.not_true, Bool.not_false]
            refine ld1_r r6 rfl ?_
            try simp only [e_fd, e_nck, e_pkt, e_pkf, e_gdtt, e_gdtf, e_gdft, e_gdff, e_ift, e_iff, e_not, e_ln, e_lnT, e_cp, e_cvi, e_ex20, e_ex21, e_ex30, e_ex31, e_ex32, e_add, e_sub, e_mul, e_quo, e_rem, e_and, e_or, e_xor, e_shl, e_shr, e_eql, e_neq, e_lss, e_leq, e_gtr, e_geq, e_beq, e_bne, e_peq1, e_peq2, e_pne1, e_pne2, e_zeq1, e_zeq2, e_zne1, e_zne2, e_feq1, e_fne1, e_feq2, e_fne2, e_seq, e_sne, e_ta1, e_ta2, Nat.zero_add, Nat.add_zero, Bool.not_true, Bool.not_false]
            have e4 : IntKind.u32.wrap (((x.s : Nat) : Int) - 1) = ((x.s - 1 : Nat) : Int) := by rw [wrapu32]; omega
            rw [e4, and32 (by omega) (by omega)]
            by_cases hp : x.s &&& (x.s - 1) = 0
            · have e5 : (((x.s &&& (x.s - 1) : Nat) : Int) == 0) = true := by rw [hp]; rfl
              simp only [e5, e_fd, e_nck, e_pkt, e_pkf, e_gdtt, e_gdtf, e_gdft, e_gdff, e_ift, e_iff, e_not, e_ln, e_lnT, e_cp, e_cvi, e_ex20, e_ex21, e_ex30, e_ex31, e_ex32, e_add, e_sub, e_mul, e_quo, e_rem, e_and, e_or, e_xor, e_shl, e_shr, e_eql, e_neq, e_lss, e_leq, e_gtr, e_geq, e_beq, e_bne, e_peq1, e_peq2, e_pne1, e_pne2, e_zeq1, e_zeq2, e_zne1, e_zne2, e_feq1, e_fne1, e_feq2, e_fne2, e_seq, e_sne, e_ta1, e_ta2, Nat.zero_add, Nat.add_zero, Bool.not_true, Bool.not_false]
              refine ld1_r r6 rfl ?_
              try simp only [e_fd, e_nck, e_pkt, e_pkf, e_gdtt, e_gdtf, e_gdft, e_gdff, e_ift, e_iff, e_not, e_ln, e_lnT, e_cp, e_cvi, e_ex20, e_ex21, e_ex30, e_ex31, e_ex32, e_add, e_sub, e_mul, e_quo, e_rem, e_and, e_or, e_xor, e_shl, e_shr, e_eql, e_neq, e_lss, e_leq, e_gtr, e_geq, e_beq, e_bne, e_peq1, e_peq2, e_pne1, e_pne2, e_zeq1, e_zeq2, e_zne1, e_zne2, e_feq1, e_fne1, e_feq2, e_fne2, e_seq, e_sne, e_ta1, e_ta2, Nat.zero_add, Nat.add_zero, Bool.not_true, Bool.not_false]
              by_cases hn1 : 1 ≤ x.n
              · have e6 : (1 : Int) ≤ ((x.n : Nat) : Int) := by omega
                simp only [e6, decide_true, e_fd, e_nck, e_pkt, e_pkf, e_gdtt, e_gdtf, e_gdft, e_gdff, e_ift, e_iff, e_not, e_ln, e_lnT, e_cp, e_cvi, e_ex20, e_ex21, e_ex30, e_ex31, e_ex32, e_add, e_sub, e_mul, e_quo, e_rem, e_and, e_or, e_xor, e_shl, e_shr, e_eql, e_neq, e_lss, e_leq, e_gtr, e_geq, e_beq, e_bne, e_peq1, e_peq2, e_pne1, e_pne2, e_zeq1, e_zeq2, e_zne1, e_zne2, e_feq1, e_fne1, e_feq2, e_fne2, e_seq, e_sne, e_ta1, e_ta2, Nat.zero_add, Nat.add_zero, Bool.not_true, Bool.not_false]
                refine ld1_r r6 rfl ?_
                try simp only [e_fd, e_nck, e_pkt, e_pkf, e_gdtt, e_gdtf, e_gdft, e_gdff, e_ift, e_iff, e_not, e_ln, e_lnT, e_cp, e_cvi, e_ex20, e_ex21, e_ex30, e_ex31, e_ex32, e_add, e_sub, e_mul, e_quo, e_rem, e_and, e_or, e_xor, e_shl, e_shr, e_eql, e_neq, e_lss, e_leq, e_gtr, e_geq, e_beq, e_bne, e_peq1, e_peq2, e_pne1, e_pne2, e_zeq1, e_zeq2, e_zne1, e_zne2, e_feq1, e_fne1, e_feq2, e_fne2, e_seq, e_sne, e_ta1, e_ta2, Nat.zero_add, Nat.add_zero, Bool.not_true, Bool.not_false]
                by_cases hn2 : x.n ≤ 1099511627776
                · have e7 : ((x.n : Nat) : Int) ≤ 1099511627776 := by omega
                  simp only [e7, decide_true, e_fd, e_nck, e_pkt, e_pkf, e_gdtt, e_gdtf, e_gdft, e_gdff, e_ift, e_iff, e_not, e_ln, e_lnT, e_cp, e_cvi, e_ex20, e_ex21, e_ex30, e_ex31, e_ex32, e_add, e_sub, e_mul, e_quo, e_rem, e_and, e_or, e_xor, e_shl, e_shr, e_eql, e_neq, e_lss, e_leq, e_gtr, e_geq, e_beq, e_bne, e_peq1, e_peq2, e_pne1, e_pne2, e_zeq1, e_zeq2, e_zne1, e_zne2, e_feq1, e_fne1, e_feq2, e_fne2, e_seq, e_sne, e_ta1, e_ta2, Nat.zero_add, Nat.add_zero, Bool.not_true, Bool.not_false]
                  refine ld1_r r6 rfl ?_
                  try simp only [e_fd, e_nck, e_pkt, e_pkf, e_gdtt, e_gdtf, e_gdft, e_gdff, e_ift, e_iff, e_not, e_ln, e_lnT, e_cp, e_cvi, e_ex20, e_ex21, e_ex30, e_ex31, e_ex32, e_add, e_sub, e_mul, e_quo, e_rem, e_and, e_or, e_xor, e_shl, e_shr, e_eql, e_neq, e_lss, e_leq, e_gtr, e_geq, e_beq, e_bne, e_peq1, e_peq2, e_pne1, e_pne2, e_zeq1, e_zeq2, e_zne1, e_zne2, e_feq1, e_fne1, e_feq2, e_fne2, e_seq, e_sne, e_ta1, e_ta2, Nat.zero_add, Nat.add_zero, Bool.not_true, Bool.not_false]
                  by_cases hc1 : 1 ≤ x.c
                  · have e8 : (1 : Int) ≤ ((x.c : Nat) : Int) := by omega
                    simp only [e8, decide_true, e_fd, e_nck, e_pkt, e_pkf, e_gdtt, e_gdtf, e_gdft, e_gdff, e_ift, e_iff, e_not, e_ln, e_lnT, e_cp, e_cvi, e_ex20, e_ex21, e_ex30, e_ex31, e_ex32, e_add, e_sub, e_mul, e_quo, e_rem, e_and, e_or, e_xor, e_shl, e_shr, e_eql, e_neq, e_lss, e_leq, e_gtr, e_geq, e_beq, e_bne, e_peq1, e_peq2, e_pne1, e_pne2, e_zeq1, e_zeq2, e_zne1, e_zne2, e_feq1, e_fne1, e_feq2, e_fne2, e_seq, e_sne, e_ta1, e_ta2, Nat.zero_add, Nat.add_zero, Bool.not_true, Bool.not_false]
                    refine ld1_r r6 rfl ?_
                    try simp only [e_fd, e_nck, e_pkt, e_pkf, e_gdtt, e_gdtf, e_gdft, e_gdff, e_ift, e_iff, e_not, e_ln, e_lnT, e_cp, e_cvi, e_ex20, e_ex21, e_ex30, e_ex31, e_ex32, e_add, e_sub, e_mul, e_quo, e_rem, e_and, e_or, e_xor, e_shl, e_shr, e_eql, e_neq, e_lss, e_leq, e_gtr, e_geq, e_beq, e_bne, e_peq1, e_peq2, e_pne1, e_pne2, e_zeq1, e_zeq2, e_zne1, e_zne2, e_feq1, e_fne1, e_feq2, e_fne2, e_seq, e_sne, e_ta1, e_ta2, Nat.zero_add, Nat.add_zero, Bool.not_true, Bool.not_false]
                    by_cases hc2 : x.c ≤ 65536
                    · have e9 : ((x.c : Nat) : Int) ≤ 65536 := by omega
                      simp only [e9, decide_true, e_pkt, cond_true]
                      exact main true ⟨fun _ => ⟨⟨h16, h65⟩, hp, ⟨hn1, hn2⟩, hc1, hc2⟩, fun _ => rfl⟩
                    · have e9 : ¬ ((x.c : Nat) : Int) ≤ 65536 := by omega
                      simp only [e9, decide_false, e_pkt]
                      exact main false (ngood fun q => hc2 q.2.2.2.2)
                  · have e8 : ¬ (1 : Int) ≤ ((x.c : Nat) : Int) := by omega
                    simp only [e8, decide_false, e_pkf, e_gdft]
                    exact main false (ngood fun q => hc1 q.2.2.2.1)
                · have e7 : ¬ ((x.n : Nat) : Int) ≤ 1099511627776 := by omega
                  simp only [e7, decide_false, e_pkt, e_pkf, e_gdft]
                  exact main false (ngood fun q => hn2 q.2.2.1.2)
              · have e6 : ¬ (1 : Int) ≤ ((x.n : Nat) : Int) := by omega
                simp only [e6, decide_false, e_pkt, e_pkf, e_gdft]
                exact main false (ngood fun q => hn1 q.2.2.1.1)
            · have e5 : (((x.s &&& (x.s - 1) : Nat) : Int) == 0) = false := by rw [beq_eq_false_iff_ne]; omega
              simp only [e5, e_pkt, e_pkf, e_gdft]
              exact main false (ngood fun q => hp q.2.1)
          · have e3 : ¬ ((x.s : Nat) : Int) ≤ 65536 := by omega
            simp only [e3, decide_false, e_pkt, e_pkf, e_gdft]
            exact main false (ngood fun q => h65 q.1.2)
        · have e2 : ¬ (16 : Int) ≤ ((x.s : Nat) : Int) := by omega
          simp only [e2, decide_false, e_pkt, e_pkf, e_gdft]
          exact main false (ngood fun q => h16 q.1.1)
      · have e1 : (x.kind != 0) = true := by rw [bne_iff_ne]; exact hkd
        simp only [e1, e_fd, e_nck, e_pkt, e_pkf, e_gdtt, e_gdtf, e_gdft, e_gdff, e_ift, e_iff, e_not, e_ln, e_lnT, e_cp, e_cvi, e_ex20, e_ex21, e_ex30, e_ex31, e_ex32, e_add, e_sub, e_mul, e_quo, e_rem, e_and, e_or, e_xor, e_shl, e_shr, e_eql, e_neq, e_lss, e_leq, e_gtr, e_geq, e_beq, e_bne, e_peq1, e_peq2, e_pne1, e_pne2, e_zeq1, e_zeq2, e_zne1, e_zne2, e_feq1, e_fne1, e_feq2, e_fne2, e_seq, e_sne, e_ta1, e_ta2, Nat.zero_add, Nat.add_zero, Bool.not_true, Bool.not_false]
        exact next w4 k4
    · have hlt' : ¬ (i : Int) < (xs.length : Int) := by omega
      simp only [hlt', decide_false, e_fd, e_nck, e_pkt, e_pkf, e_gdtt, e_gdtf, e_gdft, e_gdff, e_ift, e_iff, e_not, e_ln, e_lnT, e_cp, e_cvi, e_ex20, e_ex21, e_ex30, e_ex31, e_ex32, e_add, e_sub, e_mul, e_quo, e_rem, e_and, e_or, e_xor, e_shl, e_shr, e_eql, e_neq, e_lss, e_leq, e_gtr, e_geq, e_beq, e_bne, e_peq1, e_peq2, e_pne1, e_pne2, e_zeq1, e_zeq2, e_zne1, e_zne2, e_feq1, e_fne1, e_feq2, e_fne2, e_seq, e_sne, e_ta1, e_ta2, Nat.zero_add, Nat.add_zero, Bool.not_true, Bool.not_false]
      unfold s3_p1
      exact ⟨rfl, hb2⟩

theorem law3_walk {W : World} {v : Value} {xs : List Op} (hs : Scr W v xs) (hg : Han W) : Calls Tryf.prog 3 #[v] W fun e w' => e = .returned (.bool true) ∧ Below W.heap.size W w' :=
  Calls.mono (law3 hs hg) fun e w' ⟨r, he, hr, hb⟩ => ⟨by rw [he, hr], hb⟩
end Go.Proofs.Qxb6500899aFmt
