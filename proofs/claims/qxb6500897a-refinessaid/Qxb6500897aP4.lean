import Derived.Test.Qxb6500897aP3
namespace Go.Proofs.Qxb6500897a
open Go.Sh Go.RowKit
set_option linter.unusedVariables false
set_option linter.unusedSimpArgs false

theorem cdy_r {P : Program} {g : FuncId} {args : Array Value} {K : Value → World → Prop} {w : World} (hg : okF P g = true) (h : cl P g args K w) : cdy P (.func (.func g) #[] #[]) args K w := by
  refine ⟨hg, ?_⟩
  simpa using h

/-- what each of the closures does to the configuration -/
def Spoils (g : FuncId) : Prop := ∀ (c b : Nat) (K : Value → World → Prop) (w : World), c ≠ b → Row w c 30 [I 6, I 90, .slice (some ⟨b, 0, none⟩) 4 4] → Row w b 59 (rows Att.cells parkA) →
  (∀ w' H M v av, Row w' c 30 [I H, I M, v] → AttS w' v av → okCfg H M av = false → Kp (fun x => x = c ∨ x = b) w w' → K (.tuple #[]) w') → cl Try.prog g #[.pointer (some ⟨c, 0, none⟩)] K w

theorem spoil36 : Spoils 36 := by
  intro c b K w hne rc rb hK
  apply c36
  unfold s36_p1
  simp only [e_fd, e_nck, e_pkt, e_pkf, e_gdtt, e_gdtf, e_gdft, e_gdff, e_ift, e_iff, e_not, e_ln, e_lnT, e_cp, e_cvi, e_ex20, e_ex21, e_ex30, e_ex31, e_ex32, e_add, e_sub, e_mul, e_quo, e_rem, e_and, e_or, e_xor, e_shl, e_shr, e_eql, e_neq, e_lss, e_leq, e_gtr, e_geq, e_beq, e_bne, e_peq1, e_peq2, e_pne1, e_pne2, e_zeq1, e_zeq2, e_zne1, e_zne2, e_feq1, e_fne1, e_feq2, e_fne2, e_seq, e_sne, e_ta1, e_ta2, Nat.zero_add, Nat.add_zero, Bool.not_true, Bool.not_false]
  refine st1_r rc (Nat.le_of_ble_eq_true rfl) rfl fun w1 (r1 : Row w1 c 30 [I 0, I 90, .slice (some ⟨b, 0, none⟩) 4 4]) hb1 hz1 => ?_
  exact hK w1 0 90 (.slice (some ⟨b, 0, none⟩) 4 4) parkA r1 (.inr ⟨b, rfl, hb1.row rb (by intro (e : b = c); exact hne e.symm)⟩) (by decide) (hb1.mono fun k _ h => .inl h)
theorem spoil37 : Spoils 37 := by
  intro c b K w hne rc rb hK
  apply c37
  unfold s37_p1
  simp only [e_fd, e_nck, e_pkt, e_pkf, e_gdtt, e_gdtf, e_gdft, e_gdff, e_ift, e_iff, e_not, e_ln, e_lnT, e_cp, e_cvi, e_ex20, e_ex21, e_ex30, e_ex31, e_ex32, e_add, e_sub, e_mul, e_quo, e_rem, e_and, e_or, e_xor, e_shl, e_shr, e_eql, e_neq, e_lss, e_leq, e_gtr, e_geq, e_beq, e_bne, e_peq1, e_peq2, e_pne1, e_pne2, e_zeq1, e_zeq2, e_zne1, e_zne2, e_feq1, e_fne1, e_feq2, e_fne2, e_seq, e_sne, e_ta1, e_ta2, Nat.zero_add, Nat.add_zero, Bool.not_true, Bool.not_false]
  refine st1_r rc (Nat.le_of_ble_eq_true rfl) rfl fun w1 (r1 : Row w1 c 30 [I 1048577, I 90, .slice (some ⟨b, 0, none⟩) 4 4]) hb1 hz1 => ?_
  exact hK w1 1048577 90 (.slice (some ⟨b, 0, none⟩) 4 4) parkA r1 (.inr ⟨b, rfl, hb1.row rb (by intro (e : b = c); exact hne e.symm)⟩) (by decide) (hb1.mono fun k _ h => .inl h)
theorem spoil38 : Spoils 38 := by
  intro c b K w hne rc rb hK
  apply c38
  unfold s38_p1
  simp only [e_fd, e_nck, e_pkt, e_pkf, e_gdtt, e_gdtf, e_gdft, e_gdff, e_ift, e_iff, e_not, e_ln, e_lnT, e_cp, e_cvi, e_ex20, e_ex21, e_ex30, e_ex31, e_ex32, e_add, e_sub, e_mul, e_quo, e_rem, e_and, e_or, e_xor, e_shl, e_shr, e_eql, e_neq, e_lss, e_leq, e_gtr, e_geq, e_beq, e_bne, e_peq1, e_peq2, e_pne1, e_pne2, e_zeq1, e_zeq2, e_zne1, e_zne2, e_feq1, e_fne1, e_feq2, e_fne2, e_seq, e_sne, e_ta1, e_ta2, Nat.zero_add, Nat.add_zero, Bool.not_true, Bool.not_false]
  refine st1_r rc (Nat.le_of_ble_eq_true rfl) rfl fun w1 (r1 : Row w1 c 30 [I 6, I (-1), .slice (some ⟨b, 0, none⟩) 4 4]) hb1 hz1 => ?_
  exact hK w1 6 (-1) (.slice (some ⟨b, 0, none⟩) 4 4) parkA r1 (.inr ⟨b, rfl, hb1.row rb (by intro (e : b = c); exact hne e.symm)⟩) (by decide) (hb1.mono fun k _ h => .inl h)
theorem spoil39 : Spoils 39 := by
  intro c b K w hne rc rb hK
  apply c39
  unfold s39_p1
  simp only [e_fd, e_nck, e_pkt, e_pkf, e_gdtt, e_gdtf, e_gdft, e_gdff, e_ift, e_iff, e_not, e_ln, e_lnT, e_cp, e_cvi, e_ex20, e_ex21, e_ex30, e_ex31, e_ex32, e_add, e_sub, e_mul, e_quo, e_rem, e_and, e_or, e_xor, e_shl, e_shr, e_eql, e_neq, e_lss, e_leq, e_gtr, e_geq, e_beq, e_bne, e_peq1, e_peq2, e_pne1, e_pne2, e_zeq1, e_zeq2, e_zne1, e_zne2, e_feq1, e_fne1, e_feq2, e_fne2, e_seq, e_sne, e_ta1, e_ta2, Nat.zero_add, Nat.add_zero, Bool.not_true, Bool.not_false]
  refine st1_r rc (Nat.le_of_ble_eq_true rfl) rfl fun w1 (r1 : Row w1 c 30 [I 6, I 1099511627777, .slice (some ⟨b, 0, none⟩) 4 4]) hb1 hz1 => ?_
  exact hK w1 6 1099511627777 (.slice (some ⟨b, 0, none⟩) 4 4) parkA r1 (.inr ⟨b, rfl, hb1.row rb (by intro (e : b = c); exact hne e.symm)⟩) (by decide) (hb1.mono fun k _ h => .inl h)
theorem spoil40 : Spoils 40 := by
  intro c b K w hne rc rb hK
  apply c40
  unfold s40_p1
  simp only [e_fd, e_nck, e_pkt, e_pkf, e_gdtt, e_gdtf, e_gdft, e_gdff, e_ift, e_iff, e_not, e_ln, e_lnT, e_cp, e_cvi, e_ex20, e_ex21, e_ex30, e_ex31, e_ex32, e_add, e_sub, e_mul, e_quo, e_rem, e_and, e_or, e_xor, e_shl, e_shr, e_eql, e_neq, e_lss, e_leq, e_gtr, e_geq, e_beq, e_bne, e_peq1, e_peq2, e_pne1, e_pne2, e_zeq1, e_zeq2, e_zne1, e_zne2, e_feq1, e_fne1, e_feq2, e_fne2, e_seq, e_sne, e_ta1, e_ta2, Nat.zero_add, Nat.add_zero, Bool.not_true, Bool.not_false]
  refine st1_r rc (Nat.le_of_ble_eq_true rfl) rfl fun w1 (r1 : Row w1 c 30 [I 6, I 90, .slice none 0 0]) hb1 hz1 => ?_
  exact hK w1 6 90 (.slice none 0 0) [] r1 (.inl ⟨rfl, rfl⟩) (by decide) (hb1.mono fun k _ h => .inl h)
theorem spoil41 : Spoils 41 := by
  intro c b K w hne rc rb hK
  apply c41
  unfold s41_p1
  simp only [e_fd, e_nck, e_pkt, e_pkf, e_gdtt, e_gdtf, e_gdft, e_gdff, e_ift, e_iff, e_not, e_ln, e_lnT, e_cp, e_cvi, e_ex20, e_ex21, e_ex30, e_ex31, e_ex32, e_add, e_sub, e_mul, e_quo, e_rem, e_and, e_or, e_xor, e_shl, e_shr, e_eql, e_neq, e_lss, e_leq, e_gtr, e_geq, e_beq, e_bne, e_peq1, e_peq2, e_pne1, e_pne2, e_zeq1, e_zeq2, e_zne1, e_zne2, e_feq1, e_fne1, e_feq2, e_fne2, e_seq, e_sne, e_ta1, e_ta2, Nat.zero_add, Nat.add_zero, Bool.not_true, Bool.not_false]
  refine ld1_r rc rfl ?_
  refine ⟨⟨by omega, by omega⟩, ?_⟩
  simp only [add_mk, e_fd, e_nck, e_pkt, e_pkf, e_gdtt, e_gdtf, e_gdft, e_gdff, e_ift, e_iff, e_not, e_ln, e_lnT, e_cp, e_cvi, e_ex20, e_ex21, e_ex30, e_ex31, e_ex32, e_add, e_sub, e_mul, e_quo, e_rem, e_and, e_or, e_xor, e_shl, e_shr, e_eql, e_neq, e_lss, e_leq, e_gtr, e_geq, e_beq, e_bne, e_peq1, e_peq2, e_pne1, e_pne2, e_zeq1, e_zeq2, e_zne1, e_zne2, e_feq1, e_fne1, e_feq2, e_fne2, e_seq, e_sne, e_ta1, e_ta2, Nat.zero_add, Nat.add_zero, Bool.not_true, Bool.not_false]
  refine st1_r rb (Nat.le_of_ble_eq_true rfl) rfl fun w1 (r1 : Row w1 b 59 (rows Att.cells [⟨9, 1, 9, 4, 6⟩, ⟨0, 3, 12, 5, 8⟩, ⟨7, 5, 5, 7, 0⟩, ⟨10, 9, 10, 3, 4⟩])) hb1 hz1 => ?_
  exact hK w1 6 90 (.slice (some ⟨b, 0, none⟩) 4 4) [⟨9, 1, 9, 4, 6⟩, ⟨0, 3, 12, 5, 8⟩, ⟨7, 5, 5, 7, 0⟩, ⟨10, 9, 10, 3, 4⟩] (hb1.row rc (by intro (e : c = b); exact hne e)) (.inr ⟨b, rfl, r1⟩) (by decide) (hb1.mono fun k _ h => .inr h)
theorem spoil42 : Spoils 42 := by
  intro c b K w hne rc rb hK
  apply c42
  unfold s42_p1
  simp only [e_fd, e_nck, e_pkt, e_pkf, e_gdtt, e_gdtf, e_gdft, e_gdff, e_ift, e_iff, e_not, e_ln, e_lnT, e_cp, e_cvi, e_ex20, e_ex21, e_ex30, e_ex31, e_ex32, e_add, e_sub, e_mul, e_quo, e_rem, e_and, e_or, e_xor, e_shl, e_shr, e_eql, e_neq, e_lss, e_leq, e_gtr, e_geq, e_beq, e_bne, e_peq1, e_peq2, e_pne1, e_pne2, e_zeq1, e_zeq2, e_zne1, e_zne2, e_feq1, e_fne1, e_feq2, e_fne2, e_seq, e_sne, e_ta1, e_ta2, Nat.zero_add, Nat.add_zero, Bool.not_true, Bool.not_false]
  refine ld1_r rc rfl ?_
  refine ⟨⟨by omega, by omega⟩, ?_⟩
  simp only [add_mk, e_fd, e_nck, e_pkt, e_pkf, e_gdtt, e_gdtf, e_gdft, e_gdff, e_ift, e_iff, e_not, e_ln, e_lnT, e_cp, e_cvi, e_ex20, e_ex21, e_ex30, e_ex31, e_ex32, e_add, e_sub, e_mul, e_quo, e_rem, e_and, e_or, e_xor, e_shl, e_shr, e_eql, e_neq, e_lss, e_leq, e_gtr, e_geq, e_beq, e_bne, e_peq1, e_peq2, e_pne1, e_pne2, e_zeq1, e_zeq2, e_zne1, e_zne2, e_feq1, e_fne1, e_feq2, e_fne2, e_seq, e_sne, e_ta1, e_ta2, Nat.zero_add, Nat.add_zero, Bool.not_true, Bool.not_false]
  refine st1_r rb (Nat.le_of_ble_eq_true rfl) rfl fun w1 (r1 : Row w1 b 59 (rows Att.cells [⟨9, 1, 9, 4, 6⟩, ⟨1073741825, 3, 12, 5, 8⟩, ⟨7, 5, 5, 7, 0⟩, ⟨10, 9, 10, 3, 4⟩])) hb1 hz1 => ?_
  exact hK w1 6 90 (.slice (some ⟨b, 0, none⟩) 4 4) [⟨9, 1, 9, 4, 6⟩, ⟨1073741825, 3, 12, 5, 8⟩, ⟨7, 5, 5, 7, 0⟩, ⟨10, 9, 10, 3, 4⟩] (hb1.row rc (by intro (e : c = b); exact hne e)) (.inr ⟨b, rfl, r1⟩) (by decide) (hb1.mono fun k _ h => .inr h)
theorem spoil43 : Spoils 43 := by
  intro c b K w hne rc rb hK
  apply c43
  unfold s43_p1
  simp only [e_fd, e_nck, e_pkt, e_pkf, e_gdtt, e_gdtf, e_gdft, e_gdff, e_ift, e_iff, e_not, e_ln, e_lnT, e_cp, e_cvi, e_ex20, e_ex21, e_ex30, e_ex31, e_ex32, e_add, e_sub, e_mul, e_quo, e_rem, e_and, e_or, e_xor, e_shl, e_shr, e_eql, e_neq, e_lss, e_leq, e_gtr, e_geq, e_beq, e_bne, e_peq1, e_peq2, e_pne1, e_pne2, e_zeq1, e_zeq2, e_zne1, e_zne2, e_feq1, e_fne1, e_feq2, e_fne2, e_seq, e_sne, e_ta1, e_ta2, Nat.zero_add, Nat.add_zero, Bool.not_true, Bool.not_false]
  refine ld1_r rc rfl ?_
  refine ⟨⟨by omega, by omega⟩, ?_⟩
  simp only [add_mk, e_fd, e_nck, e_pkt, e_pkf, e_gdtt, e_gdtf, e_gdft, e_gdff, e_ift, e_iff, e_not, e_ln, e_lnT, e_cp, e_cvi, e_ex20, e_ex21, e_ex30, e_ex31, e_ex32, e_add, e_sub, e_mul, e_quo, e_rem, e_and, e_or, e_xor, e_shl, e_shr, e_eql, e_neq, e_lss, e_leq, e_gtr, e_geq, e_beq, e_bne, e_peq1, e_peq2, e_pne1, e_pne2, e_zeq1, e_zeq2, e_zne1, e_zne2, e_feq1, e_fne1, e_feq2, e_fne2, e_seq, e_sne, e_ta1, e_ta2, Nat.zero_add, Nat.add_zero, Bool.not_true, Bool.not_false]
  refine st1_r rb (Nat.le_of_ble_eq_true rfl) rfl fun w1 (r1 : Row w1 b 59 (rows Att.cells [⟨9, 1, 9, 4, 6⟩, ⟨12, 3, 12, 5, 8⟩, ⟨7, 0, 5, 7, 0⟩, ⟨10, 9, 10, 3, 4⟩])) hb1 hz1 => ?_
  exact hK w1 6 90 (.slice (some ⟨b, 0, none⟩) 4 4) [⟨9, 1, 9, 4, 6⟩, ⟨12, 3, 12, 5, 8⟩, ⟨7, 0, 5, 7, 0⟩, ⟨10, 9, 10, 3, 4⟩] (hb1.row rc (by intro (e : c = b); exact hne e)) (.inr ⟨b, rfl, r1⟩) (by decide) (hb1.mono fun k _ h => .inr h)
theorem spoil44 : Spoils 44 := by
  intro c b K w hne rc rb hK
  apply c44
  unfold s44_p1
  simp only [e_fd, e_nck, e_pkt, e_pkf, e_gdtt, e_gdtf, e_gdft, e_gdff, e_ift, e_iff, e_not, e_ln, e_lnT, e_cp, e_cvi, e_ex20, e_ex21, e_ex30, e_ex31, e_ex32, e_add, e_sub, e_mul, e_quo, e_rem, e_and, e_or, e_xor, e_shl, e_shr, e_eql, e_neq, e_lss, e_leq, e_gtr, e_geq, e_beq, e_bne, e_peq1, e_peq2, e_pne1, e_pne2, e_zeq1, e_zeq2, e_zne1, e_zne2, e_feq1, e_fne1, e_feq2, e_fne2, e_seq, e_sne, e_ta1, e_ta2, Nat.zero_add, Nat.add_zero, Bool.not_true, Bool.not_false]
  refine ld1_r rc rfl ?_
  refine ⟨⟨by omega, by omega⟩, ?_⟩
  simp only [add_mk, e_fd, e_nck, e_pkt, e_pkf, e_gdtt, e_gdtf, e_gdft, e_gdff, e_ift, e_iff, e_not, e_ln, e_lnT, e_cp, e_cvi, e_ex20, e_ex21, e_ex30, e_ex31, e_ex32, e_add, e_sub, e_mul, e_quo, e_rem, e_and, e_or, e_xor, e_shl, e_shr, e_eql, e_neq, e_lss, e_leq, e_gtr, e_geq, e_beq, e_bne, e_peq1, e_peq2, e_pne1, e_pne2, e_zeq1, e_zeq2, e_zne1, e_zne2, e_feq1, e_fne1, e_feq2, e_fne2, e_seq, e_sne, e_ta1, e_ta2, Nat.zero_add, Nat.add_zero, Bool.not_true, Bool.not_false]
  refine st1_r rb (Nat.le_of_ble_eq_true rfl) rfl fun w1 (r1 : Row w1 b 59 (rows Att.cells [⟨9, 1, 9, 4, 6⟩, ⟨12, 3, 12, 5, 8⟩, ⟨7, 65537, 5, 7, 0⟩, ⟨10, 9, 10, 3, 4⟩])) hb1 hz1 => ?_
  exact hK w1 6 90 (.slice (some ⟨b, 0, none⟩) 4 4) [⟨9, 1, 9, 4, 6⟩, ⟨12, 3, 12, 5, 8⟩, ⟨7, 65537, 5, 7, 0⟩, ⟨10, 9, 10, 3, 4⟩] (hb1.row rc (by intro (e : c = b); exact hne e)) (.inr ⟨b, rfl, r1⟩) (by decide) (hb1.mono fun k _ h => .inr h)
theorem spoil45 : Spoils 45 := by
  intro c b K w hne rc rb hK
  apply c45
  unfold s45_p1
  simp only [e_fd, e_nck, e_pkt, e_pkf, e_gdtt, e_gdtf, e_gdft, e_gdff, e_ift, e_iff, e_not, e_ln, e_lnT, e_cp, e_cvi, e_ex20, e_ex21, e_ex30, e_ex31, e_ex32, e_add, e_sub, e_mul, e_quo, e_rem, e_and, e_or, e_xor, e_shl, e_shr, e_eql, e_neq, e_lss, e_leq, e_gtr, e_geq, e_beq, e_bne, e_peq1, e_peq2, e_pne1, e_pne2, e_zeq1, e_zeq2, e_zne1, e_zne2, e_feq1, e_fne1, e_feq2, e_fne2, e_seq, e_sne, e_ta1, e_ta2, Nat.zero_add, Nat.add_zero, Bool.not_true, Bool.not_false]
  refine ld1_r rc rfl ?_
  refine ⟨⟨by omega, by omega⟩, ?_⟩
  simp only [add_mk, e_fd, e_nck, e_pkt, e_pkf, e_gdtt, e_gdtf, e_gdft, e_gdff, e_ift, e_iff, e_not, e_ln, e_lnT, e_cp, e_cvi, e_ex20, e_ex21, e_ex30, e_ex31, e_ex32, e_add, e_sub, e_mul, e_quo, e_rem, e_and, e_or, e_xor, e_shl, e_shr, e_eql, e_neq, e_lss, e_leq, e_gtr, e_geq, e_beq, e_bne, e_peq1, e_peq2, e_pne1, e_pne2, e_zeq1, e_zeq2, e_zne1, e_zne2, e_feq1, e_fne1, e_feq2, e_fne2, e_seq, e_sne, e_ta1, e_ta2, Nat.zero_add, Nat.add_zero, Bool.not_true, Bool.not_false]
  refine ⟨⟨by omega, by omega⟩, ?_⟩
  simp only [add_mk]
  refine st1_r rb (Nat.le_of_ble_eq_true rfl) rfl fun w1 (r1 : Row w1 b 59 (rows Att.cells [⟨9, 1, 9, 4, -1⟩, ⟨12, 3, 12, 5, 8⟩, ⟨7, 5, 5, 7, 0⟩, ⟨10, 9, 10, 3, 4⟩])) hb1 hz1 => ?_
  exact hK w1 6 90 (.slice (some ⟨b, 0, none⟩) 4 4) [⟨9, 1, 9, 4, -1⟩, ⟨12, 3, 12, 5, 8⟩, ⟨7, 5, 5, 7, 0⟩, ⟨10, 9, 10, 3, 4⟩] (hb1.row rc (by intro (e : c = b); exact hne e)) (.inr ⟨b, rfl, r1⟩) (by decide) (hb1.mono fun k _ h => .inr h)
theorem spoil46 : Spoils 46 := by
  intro c b K w hne rc rb hK
  apply c46
  unfold s46_p1
  simp only [e_fd, e_nck, e_pkt, e_pkf, e_gdtt, e_gdtf, e_gdft, e_gdff, e_ift, e_iff, e_not, e_ln, e_lnT, e_cp, e_cvi, e_ex20, e_ex21, e_ex30, e_ex31, e_ex32, e_add, e_sub, e_mul, e_quo, e_rem, e_and, e_or, e_xor, e_shl, e_shr, e_eql, e_neq, e_lss, e_leq, e_gtr, e_geq, e_beq, e_bne, e_peq1, e_peq2, e_pne1, e_pne2, e_zeq1, e_zeq2, e_zne1, e_zne2, e_feq1, e_fne1, e_feq2, e_fne2, e_seq, e_sne, e_ta1, e_ta2, Nat.zero_add, Nat.add_zero, Bool.not_true, Bool.not_false]
  refine ld1_r rc rfl ?_
  refine ⟨⟨by omega, by omega⟩, ?_⟩
  simp only [add_mk, e_fd, e_nck, e_pkt, e_pkf, e_gdtt, e_gdtf, e_gdft, e_gdff, e_ift, e_iff, e_not, e_ln, e_lnT, e_cp, e_cvi, e_ex20, e_ex21, e_ex30, e_ex31, e_ex32, e_add, e_sub, e_mul, e_quo, e_rem, e_and, e_or, e_xor, e_shl, e_shr, e_eql, e_neq, e_lss, e_leq, e_gtr, e_geq, e_beq, e_bne, e_peq1, e_peq2, e_pne1, e_pne2, e_zeq1, e_zeq2, e_zne1, e_zne2, e_feq1, e_fne1, e_feq2, e_fne2, e_seq, e_sne, e_ta1, e_ta2, Nat.zero_add, Nat.add_zero, Bool.not_true, Bool.not_false]
  refine ⟨⟨by omega, by omega⟩, ?_⟩
  simp only [add_mk]
  refine st1_r rb (Nat.le_of_ble_eq_true rfl) rfl fun w1 (r1 : Row w1 b 59 (rows Att.cells [⟨9, 1, 9, 1073741825, 6⟩, ⟨12, 3, 12, 5, 8⟩, ⟨7, 5, 5, 7, 0⟩, ⟨10, 9, 10, 3, 4⟩])) hb1 hz1 => ?_
  exact hK w1 6 90 (.slice (some ⟨b, 0, none⟩) 4 4) [⟨9, 1, 9, 1073741825, 6⟩, ⟨12, 3, 12, 5, 8⟩, ⟨7, 5, 5, 7, 0⟩, ⟨10, 9, 10, 3, 4⟩] (hb1.row rc (by intro (e : c = b); exact hne e)) (.inr ⟨b, rfl, r1⟩) (by decide) (hb1.mono fun k _ h => .inr h)

def funs : List Value := (List.range 11).map fun i => .func (.func (36 + i)) #[] #[]
set_option maxRecDepth 100000 in
theorem funs_ok : ∀ i : Nat, i < 11 → okF Try.prog (36 + i) = true := by
  intro i hi
  have : i = 0 ∨ i = 1 ∨ i = 2 ∨ i = 3 ∨ i = 4 ∨ i = 5 ∨ i = 6 ∨ i = 7 ∨ i = 8 ∨ i = 9 ∨ i = 10 := by omega
  rcases this with rfl | rfl | rfl | rfl | rfl | rfl | rfl | rfl | rfl | rfl | rfl
  · exact (by kernel_rfl : okF Try.prog 36 = true)
  · exact (by kernel_rfl : okF Try.prog 37 = true)
  · exact (by kernel_rfl : okF Try.prog 38 = true)
  · exact (by kernel_rfl : okF Try.prog 39 = true)
  · exact (by kernel_rfl : okF Try.prog 40 = true)
  · exact (by kernel_rfl : okF Try.prog 41 = true)
  · exact (by kernel_rfl : okF Try.prog 42 = true)
  · exact (by kernel_rfl : okF Try.prog 43 = true)
  · exact (by kernel_rfl : okF Try.prog 44 = true)
  · exact (by kernel_rfl : okF Try.prog 45 = true)
  · exact (by kernel_rfl : okF Try.prog 46 = true)
theorem spoils : ∀ i : Nat, i < 11 → Spoils (36 + i) := by
  intro i hi
  have : i = 0 ∨ i = 1 ∨ i = 2 ∨ i = 3 ∨ i = 4 ∨ i = 5 ∨ i = 6 ∨ i = 7 ∨ i = 8 ∨ i = 9 ∨ i = 10 := by omega
  rcases this with rfl | rfl | rfl | rfl | rfl | rfl | rfl | rfl | rfl | rfl | rfl
  · exact spoil36
  · exact spoil37
  · exact spoil38
  · exact spoil39
  · exact spoil40
  · exact spoil41
  · exact spoil42
  · exact spoil43
  · exact spoil44
  · exact spoil45
  · exact spoil46

theorem last_ok {K : Value → World → Prop} {w : World} (W : World) (hw : Kp (fun _ => False) W w) (hK : ∀ w', Kp (fun _ => False) W w' → K (.bool true) w') : s12_p1 K w := by
  unfold s12_p1
  refine park_ok fun w1 b hb r1 hb1 => ?_
  refine new_good (av := parkA) (by decide) (.inr ⟨b, rfl, r1⟩) fun w2 d tb ts hd ht hfr htabs hbl hb2 => ?_
  simp only [e_fd, e_nck, e_pkt, e_pkf, e_gdtt, e_gdtf, e_gdft, e_gdff, e_ift, e_iff, e_not, e_ln, e_lnT, e_cp, e_cvi, e_ex20, e_ex21, e_ex30, e_ex31, e_ex32, e_add, e_sub, e_mul, e_quo, e_rem, e_and, e_or, e_xor, e_shl, e_shr, e_eql, e_neq, e_lss, e_leq, e_gtr, e_geq, e_beq, e_bne, e_peq1, e_peq2, e_pne1, e_pne2, e_zeq1, e_zeq2, e_zne1, e_zne2, e_feq1, e_fne1, e_feq2, e_fne2, e_seq, e_sne, e_ta1, e_ta2, Nat.zero_add, Nat.add_zero, Bool.not_true, Bool.not_false]
  refine now_ok htabs.top ?_
  simp only [e_fd, e_nck, e_pkt, e_pkf, e_gdtt, e_gdtf, e_gdft, e_gdff, e_ift, e_iff, e_not, e_ln, e_lnT, e_cp, e_cvi, e_ex20, e_ex21, e_ex30, e_ex31, e_ex32, e_add, e_sub, e_mul, e_quo, e_rem, e_and, e_or, e_xor, e_shl, e_shr, e_eql, e_neq, e_lss, e_leq, e_gtr, e_geq, e_beq, e_bne, e_peq1, e_peq2, e_pne1, e_pne2, e_zeq1, e_zeq2, e_zne1, e_zne2, e_feq1, e_fne1, e_feq2, e_fne2, e_seq, e_sne, e_ta1, e_ta2, Nat.zero_add, Nat.add_zero, Bool.not_true, Bool.not_false]
  exact hK w2 ((hw.trans hb1).trans hb2)

theorem law_loop {K : Value → World → Prop} {w : World} {b : Nat} (W : World) (h : Row w b 78 funs) (hw : Kp (fun _ => False) W w) (hK : ∀ w', Kp (fun _ => False) W w' → K (.bool true) w') :
    s12_p3 K (.slice (some ⟨b, 0, none⟩) 11 11) (I 11) (I 0) w := by
  refine ⟨fun n l w => ∃ i : Nat, l = [.slice (some ⟨b, 0, none⟩) 11 11, I 11, I i] ∧ i ≤ 11 ∧ n = 11 - i ∧ Row w b 78 funs ∧ Kp (fun _ => False) W w,
    11, ⟨0, rfl, by omega, by omega, h, hw⟩, ?_⟩
  rintro n l w ⟨i, rfl, hi, rfl, h, hw⟩
  rw [s12_p3_Fe]
  unfold s12_p2
  simp only [e_fd, e_nck, e_pkt, e_pkf, e_gdtt, e_gdtf, e_gdft, e_gdff, e_ift, e_iff, e_not, e_ln, e_lnT, e_cp, e_cvi, e_ex20, e_ex21, e_ex30, e_ex31, e_ex32, e_add, e_sub, e_mul, e_quo, e_rem, e_and, e_or, e_xor, e_shl, e_shr, e_eql, e_neq, e_lss, e_leq, e_gtr, e_geq, e_beq, e_bne, e_peq1, e_peq2, e_pne1, e_pne2, e_zeq1, e_zeq2, e_zne1, e_zne2, e_feq1, e_fne1, e_feq2, e_fne2, e_seq, e_sne, e_ta1, e_ta2, Nat.zero_add, Nat.add_zero, Bool.not_true, Bool.not_false]
  by_cases hil : i < 11
  · have hil' : ((i : Int) < 11) := by omega
    simp only [hil', decide_true, e_fd, e_nck, e_pkt, e_pkf, e_gdtt, e_gdtf, e_gdft, e_gdff, e_ift, e_iff, e_not, e_ln, e_lnT, e_cp, e_cvi, e_ex20, e_ex21, e_ex30, e_ex31, e_ex32, e_add, e_sub, e_mul, e_quo, e_rem, e_and, e_or, e_xor, e_shl, e_shr, e_eql, e_neq, e_lss, e_leq, e_gtr, e_geq, e_beq, e_bne, e_peq1, e_peq2, e_pne1, e_pne2, e_zeq1, e_zeq2, e_zne1, e_zne2, e_feq1, e_fne1, e_feq2, e_fne2, e_seq, e_sne, e_ta1, e_ta2, Nat.zero_add, Nat.add_zero, Bool.not_true, Bool.not_false]
    refine ⟨⟨by omega, by omega⟩, ?_⟩
    have ei : ((i : Int)).toNat * 1 = i := by omega
    simp only [ei, add_mk, Nat.zero_add]
    refine ld1_r (v := .func (.func (36 + i)) #[] #[]) h (by simp [funs, hil]) ?_
    refine park_ok fun w1 pb hpb r1 hb1 => ?_
    refine nw_r fun w2 r2 hb2 hz2 => ?_
    refine stn_r (cs := [I 6, I 90, .slice (some ⟨pb, 0, none⟩) 4 4]) r2 rfl (by simp) rfl fun w3 (r3 : Row w3 _ 30 [I 6, I 90, .slice (some ⟨pb, 0, none⟩) 4 4]) hb3 hz3 => ?_
    have hpl := r1.lt
    have hbl := h.lt
    have hz1 := hb1.size
    have hzW := hw.size
    have r1' := hb3.row (hb2.row' r1) (by intro (e : pb = _); omega)
    have k3 : Kp (fun _ => False) w w3 := (hb1.trans hb2).then hb3 (by intro k hk (e : k = _); omega)
    refine cdy_r (funs_ok i hil) (spoils i hil _ _ _ _ (by omega) r3 r1' fun w4 H M v av r4 hav hbad hb4 => ?_)
    refine ldn_r r4 (Nat.le_of_ble_eq_true rfl) ?_
    refine new_bad hbad hav fun w5 eb r5 hb5 => ?_
    simp only [e_fd, e_nck, e_pkt, e_pkf, e_gdtt, e_gdtf, e_gdft, e_gdff, e_ift, e_iff, e_not, e_ln, e_lnT, e_cp, e_cvi, e_ex20, e_ex21, e_ex30, e_ex31, e_ex32, e_add, e_sub, e_mul, e_quo, e_rem, e_and, e_or, e_xor, e_shl, e_shr, e_eql, e_neq, e_lss, e_leq, e_gtr, e_geq, e_beq, e_bne, e_peq1, e_peq2, e_pne1, e_pne2, e_zeq1, e_zeq2, e_zne1, e_zne2, e_feq1, e_fne1, e_feq2, e_fne2, e_seq, e_sne, e_ta1, e_ta2, Nat.zero_add, Nat.add_zero, Bool.not_true, Bool.not_false]
    refine codeOf_err r5 ?_
    simp only [e_fd, e_nck, e_pkt, e_pkf, e_gdtt, e_gdtf, e_gdft, e_gdff, e_ift, e_iff, e_not, e_ln, e_lnT, e_cp, e_cvi, e_ex20, e_ex21, e_ex30, e_ex31, e_ex32, e_add, e_sub, e_mul, e_quo, e_rem, e_and, e_or, e_xor, e_shl, e_shr, e_eql, e_neq, e_lss, e_leq, e_gtr, e_geq, e_beq, e_bne, e_peq1, e_peq2, e_pne1, e_pne2, e_zeq1, e_zeq2, e_zne1, e_zne2, e_feq1, e_fne1, e_feq2, e_fne2, e_seq, e_sne, e_ta1, e_ta2, Nat.zero_add, Nat.add_zero, Bool.not_true, Bool.not_false]
    have e11 : ((11 : Int) != 11) = false := by decide
    simp only [e11, e_fd, e_nck, e_pkt, e_pkf, e_gdtt, e_gdtf, e_gdft, e_gdff, e_ift, e_iff, e_not, e_ln, e_lnT, e_cp, e_cvi, e_ex20, e_ex21, e_ex30, e_ex31, e_ex32, e_add, e_sub, e_mul, e_quo, e_rem, e_and, e_or, e_xor, e_shl, e_shr, e_eql, e_neq, e_lss, e_leq, e_gtr, e_geq, e_beq, e_bne, e_peq1, e_peq2, e_pne1, e_pne2, e_zeq1, e_zeq2, e_zne1, e_zne2, e_feq1, e_fne1, e_feq2, e_fne2, e_seq, e_sne, e_ta1, e_ta2, Nat.zero_add, Nat.add_zero, Bool.not_true, Bool.not_false]
    rw [wrap64_id (by omega) (by omega)]
    have k5 : Kp (fun _ => False) w w5 := (k3.then hb4 (by intro k hk h; rcases h with h | h <;> omega)).trans hb5
    exact ⟨11 - (i + 1), by omega, i + 1, by simp, by omega, rfl, k5.row' h, hw.trans k5⟩
  · have hil' : ¬ ((i : Int) < 11) := by omega
    simp only [hil', decide_false, e_fd, e_nck, e_pkt, e_pkf, e_gdtt, e_gdtf, e_gdft, e_gdff, e_ift, e_iff, e_not, e_ln, e_lnT, e_cp, e_cvi, e_ex20, e_ex21, e_ex30, e_ex31, e_ex32, e_add, e_sub, e_mul, e_quo, e_rem, e_and, e_or, e_xor, e_shl, e_shr, e_eql, e_neq, e_lss, e_leq, e_gtr, e_geq, e_beq, e_bne, e_peq1, e_peq2, e_pne1, e_pne2, e_zeq1, e_zeq2, e_zne1, e_zne2, e_feq1, e_fne1, e_feq2, e_fne2, e_seq, e_sne, e_ta1, e_ta2, Nat.zero_add, Nat.add_zero, Bool.not_true, Bool.not_false]
    exact last_ok W hw hK

theorem config_law {K : Value → World → Prop} {w : World} (hK : ∀ w', Kp (fun _ => False) w w' → K (.bool true) w') : cl Try.prog 12 #[] K w := by
  apply c12
  unfold s12_p4
  apply bsq_r (l := funs) rfl
  intro w1 r1 hb1 hz1
  simp only [e_fd, e_nck, e_pkt, e_pkf, e_gdtt, e_gdtf, e_gdft, e_gdff, e_ift, e_iff, e_not, e_ln, e_lnT, e_cp, e_cvi, e_ex20, e_ex21, e_ex30, e_ex31, e_ex32, e_add, e_sub, e_mul, e_quo, e_rem, e_and, e_or, e_xor, e_shl, e_shr, e_eql, e_neq, e_lss, e_leq, e_gtr, e_geq, e_beq, e_bne, e_peq1, e_peq2, e_pne1, e_pne2, e_zeq1, e_zeq2, e_zne1, e_zne2, e_feq1, e_fne1, e_feq2, e_fne2, e_seq, e_sne, e_ta1, e_ta2, Nat.zero_add, Nat.add_zero, Bool.not_true, Bool.not_false]
  exact law_loop w r1 hb1 hK

theorem config_walk (w : World) : Calls Try.prog 12 #[] w fun e w' => e = .returned (.bool true) ∧ Below w.heap.size w w' := by
  have h : cl Try.prog 12 #[] (fun v w' => v = .bool true ∧ Below w.heap.size w w') w := config_law fun w' hw => ⟨rfl, hw.below'⟩
  exact h.mono fun e w' ⟨v, he, hv, hb⟩ => ⟨by rw [he, hv], hb⟩
end Go.Proofs.Qxb6500897a
