import Derived.Test.Qxb6500898aV13
namespace Go.Proofs.Qxb6500898a
open Go.Sh Go.RowKit
set_option linter.unusedVariables false
set_option linter.unusedSimpArgs false

section
variable {W w w' w0 : World} {v d t wv rv dv : Value} {ob wob wob0 : Option Nat} {mb t3 t4 : Nat} {xs ys zs : List Int} {K : Value → World → Prop} {s s' s0 : Mst} {o : Op} {S S' : Nat → Prop}
theorem sl_scal {α : Type} {f : α → List Value} {k : Nat} {e : TypeId} {xs : List α} (h : Sl f k w e ob v xs) : scal v = true := by
  cases ob with
  | none => rw [h.1]; rfl
  | some b => obtain ⟨c, j, e1, _⟩ := h; rw [e1]; rfl
theorem Ma.inplace (h : Ma W w mb wob wv rv s) (hk : Kp (fun k => wob = some k) w w') (hs : Sl u1 1 w' 5 wob wv ys) (hb : By ys) (hl : ys.length ≤ 100000000000) : Ma W w' mb wob wv rv { s with work := ys } :=
  h.setW (hk.mono fun _ _ q => .inr q) (hk.row h.row (fun q => h.nw mb q rfl)) hs hb hl (.inl rfl)
theorem Sc.inplace (R : Sc W w0 mb wob0 o dv t3 t4 w wob wv rv s) (hk : Kp (fun k => wob = some k) w w') (hs : Sl u1 1 w' 5 wob wv ys) (hb : By ys) (hl : ys.length ≤ 100000000000) : Sc W w0 mb wob0 o dv t3 t4 w' wob wv rv { s with work := ys } :=
  R.step (hk.mono fun _ _ q => .inr q) (R.ma.inplace hk hs hb hl) (.inl rfl)
theorem Sc.data (R : Sc W w0 mb wob0 o dv t3 t4 w wob wv rv s) (hd : Bs W dv o.data) : ∀ w', Kp (fun k => wob = some k) w w' → Bs w' dv o.data := fun w' hk =>
  ((hd.q (S := fun k => wob = some k) R.ma.kp R.ma.wz).kp hk).bs

/-! ### each kind -/
theorem step_set (R : Sc W w0 mb wob0 o dv t3 t4 w wob wv rv s) (hK : StepK W w0 mb wob0 s o K) (hd : Bs W dv o.data) (hdl : o.data.length ≤ 65536) (hk : o.kind = 0) : s13_p2 K (Pt mb 0) (Pt t3 0) (Pt t4 0) w := by
  unfold s13_p2
  try simp only [e_fd, e_nck, e_pkt, e_pkf, e_gdtt, e_gdtf, e_gdft, e_gdff, e_ift, e_iff, e_not, e_ln, e_lnT, e_cp, e_cvi, e_ex20, e_ex21, e_ex30, e_ex31, e_ex32, e_add, e_sub, e_mul, e_quo, e_rem, e_and, e_or, e_xor, e_shl, e_shr, e_eql, e_neq, e_lss, e_leq, e_gtr, e_geq, e_beq, e_bne, e_peq1, e_peq2, e_pne1, e_pne2, e_zeq1, e_zeq2, e_zne1, e_zne2, e_feq1, e_fne1, e_feq2, e_fne2, e_seq, e_sne, e_ta1, e_ta2, Nat.zero_add, Nat.add_zero, Bool.not_true, Bool.not_false]
  refine ld1_r R.r3 rfl ?_
  refine clone_ok (hd.kp' R.ma.kp) (by omega) fun w1 b hb hz hk1 => ?_
  try simp only [e_fd, e_nck, e_pkt, e_pkf, e_gdtt, e_gdtf, e_gdft, e_gdff, e_ift, e_iff, e_not, e_ln, e_lnT, e_cp, e_cvi, e_ex20, e_ex21, e_ex30, e_ex31, e_ex32, e_add, e_sub, e_mul, e_quo, e_rem, e_and, e_or, e_xor, e_shl, e_shr, e_eql, e_neq, e_lss, e_leq, e_gtr, e_geq, e_beq, e_bne, e_peq1, e_peq2, e_pne1, e_pne2, e_zeq1, e_zeq2, e_zne1, e_zne2, e_feq1, e_fne1, e_feq2, e_fne2, e_seq, e_sne, e_ta1, e_ta2, Nat.zero_add, Nat.add_zero, Bool.not_true, Bool.not_false]
  have R1 := R.kp' hk1
  have nb : b ≠ mb := fun e => by have := R.ma.row.lt; omega
  refine st1_r R1.ma.row (show 0 < 4 by decide) rfl fun w2 r2 hk2 hz2 => ?_
  have hb2 := hk2.row hb (fun (e : b = mb) => nb e)
  have k02 : Kp (fun k => k = mb ∨ wob = some k) w w2 := (hk1.mono fun _ _ q => q.elim).trans (hk2.mono fun _ _ q => .inl q)
  have m2 := R.ma.setW (wob' := some b) (wv' := sv b 0 o.data.length o.data.length) (ys := o.data) k02 r2 (sl_row hb2) hd.by_ (by omega) (.inr ⟨b, rfl, hz⟩)
  have R2 := R.step k02 m2 (.inr ⟨b, rfl, hz⟩)
  refine bdq_r (l := [.bool true, .int .u64 0, .slice none 0 0]) rfl ?_
  refine R2.nil hK ?_ (by show o.data.length ≤ _; omega)
  unfold StepR
  rw [if_pos hk]
  exact ⟨rfl, rfl, rfl, rfl⟩
theorem step_load (R : Sc W w0 mb wob0 o dv t3 t4 w wob wv rv s) (hK : StepK W w0 mb wob0 s o K) (hk : o.kind = 1) : s13_p6 K (Pt mb 0) (Pt t3 0) (Pt t4 0) w := by
  unfold s13_p6
  have R := R.kp' (w' := drw w) kp_drw
  generalize drw w = w at R ⊢
  have hwl := R.ma.wl
  refine ⟨fun w' => Kp (fun _ => False) w w', Kp.refl _ _, ?_⟩
  unfold s13_p6_d
  try simp only [e_fd, e_nck, e_pkt, e_pkf, e_gdtt, e_gdtf, e_gdft, e_gdff, e_ift, e_iff, e_not, e_ln, e_lnT, e_cp, e_cvi, e_ex20, e_ex21, e_ex30, e_ex31, e_ex32, e_add, e_sub, e_mul, e_quo, e_rem, e_and, e_or, e_xor, e_shl, e_shr, e_eql, e_neq, e_lss, e_leq, e_gtr, e_geq, e_beq, e_bne, e_peq1, e_peq2, e_pne1, e_pne2, e_zeq1, e_zeq2, e_zne1, e_zne2, e_feq1, e_fne1, e_feq2, e_fne2, e_seq, e_sne, e_ta1, e_ta2, Nat.zero_add, Nat.add_zero, Bool.not_true, Bool.not_false]
  refine ⟨I o.width, fun w1 hJ => ld1_r (hJ.row' R.r3) rfl ⟨rfl, hJ⟩, ?_⟩
  refine ⟨.bool (decide (Wid o.width)), fun w1 hJ => goodWidth_ok ⟨rfl, hJ⟩, ?_⟩
  have no : ∀ {w1 : World}, Kp (fun _ => False) w w1 → ¬ (Wid o.width ∧ FitsP s.work.length o.off o.width) → s13_p5 K (Pt mb 0) (Pt t3 0) (Pt t4 0) (.bool true) w1 := by
    intro w1 hk1 hn
    unfold s13_p5
    try simp only [e_fd, e_nck, e_pkt, e_pkf, e_gdtt, e_gdtf, e_gdft, e_gdff, e_ift, e_iff, e_not, e_ln, e_lnT, e_cp, e_cvi, e_ex20, e_ex21, e_ex30, e_ex31, e_ex32, e_add, e_sub, e_mul, e_quo, e_rem, e_and, e_or, e_xor, e_shl, e_shr, e_eql, e_neq, e_lss, e_leq, e_gtr, e_geq, e_beq, e_bne, e_peq1, e_peq2, e_pne1, e_pne2, e_zeq1, e_zeq2, e_zne1, e_zne2, e_feq1, e_fne1, e_feq2, e_fne2, e_seq, e_sne, e_ta1, e_ta2, Nat.zero_add, Nat.add_zero, Bool.not_true, Bool.not_false]
    refine bdq_r (l := [.bool false, .int .u64 0, .slice none 0 0]) rfl ?_
    refine (R.kp' hk1).nil hK ?_ (by omega)
    unfold StepR
    rw [if_neg (by omega), if_pos hk]
    exact ⟨rfl, .inr ⟨hn, rfl, rfl⟩, rfl⟩
  by_cases hw : ¬ Wid o.width
  · rw [decide_eq_false hw]
    simp only [Bool.not_false, e_fd, e_nck, e_pkt, e_pkf, e_gdtt, e_gdtf, e_gdft, e_gdff, e_ift, e_iff, e_not, e_ln, e_lnT, e_cp, e_cvi, e_ex20, e_ex21, e_ex30, e_ex31, e_ex32, e_add, e_sub, e_mul, e_quo, e_rem, e_and, e_or, e_xor, e_shl, e_shr, e_eql, e_neq, e_lss, e_leq, e_gtr, e_geq, e_beq, e_bne, e_peq1, e_peq2, e_pne1, e_pne2, e_zeq1, e_zeq2, e_zne1, e_zne2, e_feq1, e_fne1, e_feq2, e_fne2, e_seq, e_sne, e_ta1, e_ta2, Nat.zero_add, Nat.add_zero, Bool.not_true, Bool.not_false]
    refine ⟨undef, fun w1 hJ => by rw [e_gdtf]; exact ⟨rfl, hJ⟩, ?_⟩
    try simp only [e_fd, e_nck, e_pkt, e_pkf, e_gdtt, e_gdtf, e_gdft, e_gdff, e_ift, e_iff, e_not, e_ln, e_lnT, e_cp, e_cvi, e_ex20, e_ex21, e_ex30, e_ex31, e_ex32, e_add, e_sub, e_mul, e_quo, e_rem, e_and, e_or, e_xor, e_shl, e_shr, e_eql, e_neq, e_lss, e_leq, e_gtr, e_geq, e_beq, e_bne, e_peq1, e_peq2, e_pne1, e_pne2, e_zeq1, e_zeq2, e_zne1, e_zne2, e_feq1, e_fne1, e_feq2, e_fne2, e_seq, e_sne, e_ta1, e_ta2, Nat.zero_add, Nat.add_zero, Bool.not_true, Bool.not_false]
    refine ⟨undef, fun w1 hJ => by rw [e_gdtf]; exact ⟨rfl, hJ⟩, ?_⟩
    try simp only [e_fd, e_nck, e_pkt, e_pkf, e_gdtt, e_gdtf, e_gdft, e_gdff, e_ift, e_iff, e_not, e_ln, e_lnT, e_cp, e_cvi, e_ex20, e_ex21, e_ex30, e_ex31, e_ex32, e_add, e_sub, e_mul, e_quo, e_rem, e_and, e_or, e_xor, e_shl, e_shr, e_eql, e_neq, e_lss, e_leq, e_gtr, e_geq, e_beq, e_bne, e_peq1, e_peq2, e_pne1, e_pne2, e_zeq1, e_zeq2, e_zne1, e_zne2, e_feq1, e_fne1, e_feq2, e_fne2, e_seq, e_sne, e_ta1, e_ta2, Nat.zero_add, Nat.add_zero, Bool.not_true, Bool.not_false]
    refine ⟨undef, fun w1 hJ => by rw [e_gdtf]; exact ⟨rfl, hJ⟩, ?_⟩
    refine ⟨undef, fun w1 hJ => by rw [e_gdtf]; exact ⟨rfl, hJ⟩, ?_⟩
    try simp only [e_fd, e_nck, e_pkt, e_pkf, e_gdtt, e_gdtf, e_gdft, e_gdff, e_ift, e_iff, e_not, e_ln, e_lnT, e_cp, e_cvi, e_ex20, e_ex21, e_ex30, e_ex31, e_ex32, e_add, e_sub, e_mul, e_quo, e_rem, e_and, e_or, e_xor, e_shl, e_shr, e_eql, e_neq, e_lss, e_leq, e_gtr, e_geq, e_beq, e_bne, e_peq1, e_peq2, e_pne1, e_pne2, e_zeq1, e_zeq2, e_zne1, e_zne2, e_feq1, e_fne1, e_feq2, e_fne2, e_seq, e_sne, e_ta1, e_ta2, Nat.zero_add, Nat.add_zero, Bool.not_true, Bool.not_false]
    intro w1 hJ
    exact no hJ (fun q => hw q.1)
  have hw : Wid o.width := Decidable.not_not.1 hw
  rw [decide_eq_true hw]
  simp only [Bool.not_true, e_fd, e_nck, e_pkt, e_pkf, e_gdtt, e_gdtf, e_gdft, e_gdff, e_ift, e_iff, e_not, e_ln, e_lnT, e_cp, e_cvi, e_ex20, e_ex21, e_ex30, e_ex31, e_ex32, e_add, e_sub, e_mul, e_quo, e_rem, e_and, e_or, e_xor, e_shl, e_shr, e_eql, e_neq, e_lss, e_leq, e_gtr, e_geq, e_beq, e_bne, e_peq1, e_peq2, e_pne1, e_pne2, e_zeq1, e_zeq2, e_zne1, e_zne2, e_feq1, e_fne1, e_feq2, e_fne2, e_seq, e_sne, e_ta1, e_ta2, Nat.zero_add, Nat.add_zero, Bool.not_true, Bool.not_false]
  refine ⟨wv, fun w1 hJ => by rw [e_gdff]; exact ld1_r (hJ.row' R.ma.row) rfl ⟨rfl, hJ⟩, ?_⟩
  refine R.ma.wk.ln ?_
  try simp only [e_fd, e_nck, e_pkt, e_pkf, e_gdtt, e_gdtf, e_gdft, e_gdff, e_ift, e_iff, e_not, e_ln, e_lnT, e_cp, e_cvi, e_ex20, e_ex21, e_ex30, e_ex31, e_ex32, e_add, e_sub, e_mul, e_quo, e_rem, e_and, e_or, e_xor, e_shl, e_shr, e_eql, e_neq, e_lss, e_leq, e_gtr, e_geq, e_beq, e_bne, e_peq1, e_peq2, e_pne1, e_pne2, e_zeq1, e_zeq2, e_zne1, e_zne2, e_feq1, e_fne1, e_feq2, e_fne2, e_seq, e_sne, e_ta1, e_ta2, Nat.zero_add, Nat.add_zero, Bool.not_true, Bool.not_false]
  refine ⟨I o.off, fun w1 hJ => by rw [e_gdff]; exact ld1_r (hJ.row' R.r3) rfl ⟨rfl, hJ⟩, ?_⟩
  try simp only [e_fd, e_nck, e_pkt, e_pkf, e_gdtt, e_gdtf, e_gdft, e_gdff, e_ift, e_iff, e_not, e_ln, e_lnT, e_cp, e_cvi, e_ex20, e_ex21, e_ex30, e_ex31, e_ex32, e_add, e_sub, e_mul, e_quo, e_rem, e_and, e_or, e_xor, e_shl, e_shr, e_eql, e_neq, e_lss, e_leq, e_gtr, e_geq, e_beq, e_bne, e_peq1, e_peq2, e_pne1, e_pne2, e_zeq1, e_zeq2, e_zne1, e_zne2, e_feq1, e_fne1, e_feq2, e_fne2, e_seq, e_sne, e_ta1, e_ta2, Nat.zero_add, Nat.add_zero, Bool.not_true, Bool.not_false]
  refine ⟨I o.width, fun w1 hJ => by rw [e_gdff]; exact ld1_r (hJ.row' R.r3) rfl ⟨rfl, hJ⟩, ?_⟩
  refine ⟨.bool (decide (FitsP s.work.length o.off o.width)), fun w1 hJ => by rw [e_gdff]; exact fits_ok (by omega) ⟨rfl, hJ⟩, ?_⟩
  try simp only [e_fd, e_nck, e_pkt, e_pkf, e_gdtt, e_gdtf, e_gdft, e_gdff, e_ift, e_iff, e_not, e_ln, e_lnT, e_cp, e_cvi, e_ex20, e_ex21, e_ex30, e_ex31, e_ex32, e_add, e_sub, e_mul, e_quo, e_rem, e_and, e_or, e_xor, e_shl, e_shr, e_eql, e_neq, e_lss, e_leq, e_gtr, e_geq, e_beq, e_bne, e_peq1, e_peq2, e_pne1, e_pne2, e_zeq1, e_zeq2, e_zne1, e_zne2, e_feq1, e_fne1, e_feq2, e_fne2, e_seq, e_sne, e_ta1, e_ta2, Nat.zero_add, Nat.add_zero, Bool.not_true, Bool.not_false]
  intro w1 hJ
  by_cases hf : ¬ FitsP s.work.length o.off o.width
  · rw [decide_eq_false hf]
    exact no hJ (fun q => hf q.2)
  have hf : FitsP s.work.length o.off o.width := Decidable.not_not.1 hf
  rw [decide_eq_true hf]
  have hf' := hf
  obtain ⟨f1, f2, f3, f4⟩ := hf'
  unfold s13_p5
  simp only [Bool.not_true, e_fd, e_nck, e_pkt, e_pkf, e_gdtt, e_gdtf, e_gdft, e_gdff, e_ift, e_iff, e_not, e_ln, e_lnT, e_cp, e_cvi, e_ex20, e_ex21, e_ex30, e_ex31, e_ex32, e_add, e_sub, e_mul, e_quo, e_rem, e_and, e_or, e_xor, e_shl, e_shr, e_eql, e_neq, e_lss, e_leq, e_gtr, e_geq, e_beq, e_bne, e_peq1, e_peq2, e_pne1, e_pne2, e_zeq1, e_zeq2, e_zne1, e_zne2, e_feq1, e_fne1, e_feq2, e_fne2, e_seq, e_sne, e_ta1, e_ta2, Nat.zero_add, Nat.add_zero, Bool.not_true, Bool.not_false]
  unfold s13_p4 s13_p4_d
  have k2 : Kp (fun _ => False) w (drw w1) := hJ.trans kp_drw
  generalize drw w1 = w2 at k2 ⊢
  have R2 := R.kp' k2
  have hw2 : 2 ≤ o.width := by rcases hw with q | q | q <;> omega
  try simp only [e_fd, e_nck, e_pkt, e_pkf, e_gdtt, e_gdtf, e_gdft, e_gdff, e_ift, e_iff, e_not, e_ln, e_lnT, e_cp, e_cvi, e_ex20, e_ex21, e_ex30, e_ex31, e_ex32, e_add, e_sub, e_mul, e_quo, e_rem, e_and, e_or, e_xor, e_shl, e_shr, e_eql, e_neq, e_lss, e_leq, e_gtr, e_geq, e_beq, e_bne, e_peq1, e_peq2, e_pne1, e_pne2, e_zeq1, e_zeq2, e_zne1, e_zne2, e_feq1, e_fne1, e_feq2, e_fne2, e_seq, e_sne, e_ta1, e_ta2, Nat.zero_add, Nat.add_zero, Bool.not_true, Bool.not_false]
  refine ld1_r R2.ma.row rfl ?_
  try simp only [e_fd, e_nck, e_pkt, e_pkf, e_gdtt, e_gdtf, e_gdft, e_gdff, e_ift, e_iff, e_not, e_ln, e_lnT, e_cp, e_cvi, e_ex20, e_ex21, e_ex30, e_ex31, e_ex32, e_add, e_sub, e_mul, e_quo, e_rem, e_and, e_or, e_xor, e_shl, e_shr, e_eql, e_neq, e_lss, e_leq, e_gtr, e_geq, e_beq, e_bne, e_peq1, e_peq2, e_pne1, e_pne2, e_zeq1, e_zeq2, e_zne1, e_zne2, e_feq1, e_fne1, e_feq2, e_fne2, e_seq, e_sne, e_ta1, e_ta2, Nat.zero_add, Nat.add_zero, Bool.not_true, Bool.not_false]
  refine ld1_r R2.r3 rfl ?_
  refine R2.ma.wbs.dropW o.off.toNat (by omega) (by omega) (by omega) fun v1 hv1 => ?_
  try simp only [e_fd, e_nck, e_pkt, e_pkf, e_gdtt, e_gdtf, e_gdft, e_gdff, e_ift, e_iff, e_not, e_ln, e_lnT, e_cp, e_cvi, e_ex20, e_ex21, e_ex30, e_ex31, e_ex32, e_add, e_sub, e_mul, e_quo, e_rem, e_and, e_or, e_xor, e_shl, e_shr, e_eql, e_neq, e_lss, e_leq, e_gtr, e_geq, e_beq, e_bne, e_peq1, e_peq2, e_pne1, e_pne2, e_zeq1, e_zeq2, e_zne1, e_zne2, e_feq1, e_fne1, e_feq2, e_fne2, e_seq, e_sne, e_ta1, e_ta2, Nat.zero_add, Nat.add_zero, Bool.not_true, Bool.not_false]
  refine ld1_r R2.r3 rfl ?_
  try simp only [e_fd, e_nck, e_pkt, e_pkf, e_gdtt, e_gdtf, e_gdft, e_gdff, e_ift, e_iff, e_not, e_ln, e_lnT, e_cp, e_cvi, e_ex20, e_ex21, e_ex30, e_ex31, e_ex32, e_add, e_sub, e_mul, e_quo, e_rem, e_and, e_or, e_xor, e_shl, e_shr, e_eql, e_neq, e_lss, e_leq, e_gtr, e_geq, e_beq, e_bne, e_peq1, e_peq2, e_pne1, e_pne2, e_zeq1, e_zeq2, e_zne1, e_zne2, e_feq1, e_fne1, e_feq2, e_fne2, e_seq, e_sne, e_ta1, e_ta2, Nat.zero_add, Nat.add_zero, Bool.not_true, Bool.not_false]
  refine ld1_r R2.r3 rfl ?_
  refine load_ok hw hv1 (by rw [List.length_drop]; omega) fun w3 hk3 => ?_
  refine bdq_r (l := [.bool true, .int .u64 (dec2 o.width o.little (s.work.drop o.off.toNat)), .slice none 0 0]) rfl ?_
  refine (R2.kp' hk3).nil hK ?_ (by omega)
  unfold StepR
  rw [if_neg (by omega), if_pos hk]
  exact ⟨rfl, .inl ⟨hw, hf, rfl, rfl⟩, rfl⟩
theorem step_store (R : Sc W w0 mb wob0 o dv t3 t4 w wob wv rv s) (hK : StepK W w0 mb wob0 s o K) (wf : o.Wf) (hk : o.kind = 2) : s13_p10 K (Pt mb 0) (Pt t3 0) (Pt t4 0) w := by
  unfold s13_p10
  have R := R.kp' (w' := drw w) kp_drw
  generalize drw w = w at R ⊢
  have hwl := R.ma.wl
  refine ⟨fun w' => Kp (fun _ => False) w w', Kp.refl _ _, ?_⟩
  unfold s13_p10_d
  try simp only [e_fd, e_nck, e_pkt, e_pkf, e_gdtt, e_gdtf, e_gdft, e_gdff, e_ift, e_iff, e_not, e_ln, e_lnT, e_cp, e_cvi, e_ex20, e_ex21, e_ex30, e_ex31, e_ex32, e_add, e_sub, e_mul, e_quo, e_rem, e_and, e_or, e_xor, e_shl, e_shr, e_eql, e_neq, e_lss, e_leq, e_gtr, e_geq, e_beq, e_bne, e_peq1, e_peq2, e_pne1, e_pne2, e_zeq1, e_zeq2, e_zne1, e_zne2, e_feq1, e_fne1, e_feq2, e_fne2, e_seq, e_sne, e_ta1, e_ta2, Nat.zero_add, Nat.add_zero, Bool.not_true, Bool.not_false]
  refine ⟨I o.width, fun w1 hJ => ld1_r (hJ.row' R.r3) rfl ⟨rfl, hJ⟩, ?_⟩
  refine ⟨.bool (decide (Wid o.width)), fun w1 hJ => goodWidth_ok ⟨rfl, hJ⟩, ?_⟩
  have no : ∀ {w1 : World}, Kp (fun _ => False) w w1 → ¬ (Wid o.width ∧ FitsP s.work.length o.off o.width) → s13_p9 K (Pt mb 0) (Pt t3 0) (Pt t4 0) (.bool true) w1 := by
    intro w1 hk1 hn
    unfold s13_p9
    try simp only [e_fd, e_nck, e_pkt, e_pkf, e_gdtt, e_gdtf, e_gdft, e_gdff, e_ift, e_iff, e_not, e_ln, e_lnT, e_cp, e_cvi, e_ex20, e_ex21, e_ex30, e_ex31, e_ex32, e_add, e_sub, e_mul, e_quo, e_rem, e_and, e_or, e_xor, e_shl, e_shr, e_eql, e_neq, e_lss, e_leq, e_gtr, e_geq, e_beq, e_bne, e_peq1, e_peq2, e_pne1, e_pne2, e_zeq1, e_zeq2, e_zne1, e_zne2, e_feq1, e_fne1, e_feq2, e_fne2, e_seq, e_sne, e_ta1, e_ta2, Nat.zero_add, Nat.add_zero, Bool.not_true, Bool.not_false]
    refine bdq_r (l := [.bool false, .int .u64 0, .slice none 0 0]) rfl ?_
    refine (R.kp' hk1).nil hK ?_ (by omega)
    unfold StepR
    rw [if_neg (by omega), if_neg (by omega), if_pos hk]
    exact ⟨.inr ⟨hn, rfl, rfl⟩, rfl, rfl⟩
  by_cases hw : ¬ Wid o.width
  · rw [decide_eq_false hw]
    simp only [Bool.not_false, e_fd, e_nck, e_pkt, e_pkf, e_gdtt, e_gdtf, e_gdft, e_gdff, e_ift, e_iff, e_not, e_ln, e_lnT, e_cp, e_cvi, e_ex20, e_ex21, e_ex30, e_ex31, e_ex32, e_add, e_sub, e_mul, e_quo, e_rem, e_and, e_or, e_xor, e_shl, e_shr, e_eql, e_neq, e_lss, e_leq, e_gtr, e_geq, e_beq, e_bne, e_peq1, e_peq2, e_pne1, e_pne2, e_zeq1, e_zeq2, e_zne1, e_zne2, e_feq1, e_fne1, e_feq2, e_fne2, e_seq, e_sne, e_ta1, e_ta2, Nat.zero_add, Nat.add_zero, Bool.not_true, Bool.not_false]
    refine ⟨undef, fun w1 hJ => by rw [e_gdtf]; exact ⟨rfl, hJ⟩, ?_⟩
    try simp only [e_fd, e_nck, e_pkt, e_pkf, e_gdtt, e_gdtf, e_gdft, e_gdff, e_ift, e_iff, e_not, e_ln, e_lnT, e_cp, e_cvi, e_ex20, e_ex21, e_ex30, e_ex31, e_ex32, e_add, e_sub, e_mul, e_quo, e_rem, e_and, e_or, e_xor, e_shl, e_shr, e_eql, e_neq, e_lss, e_leq, e_gtr, e_geq, e_beq, e_bne, e_peq1, e_peq2, e_pne1, e_pne2, e_zeq1, e_zeq2, e_zne1, e_zne2, e_feq1, e_fne1, e_feq2, e_fne2, e_seq, e_sne, e_ta1, e_ta2, Nat.zero_add, Nat.add_zero, Bool.not_true, Bool.not_false]
    refine ⟨undef, fun w1 hJ => by rw [e_gdtf]; exact ⟨rfl, hJ⟩, ?_⟩
    try simp only [e_fd, e_nck, e_pkt, e_pkf, e_gdtt, e_gdtf, e_gdft, e_gdff, e_ift, e_iff, e_not, e_ln, e_lnT, e_cp, e_cvi, e_ex20, e_ex21, e_ex30, e_ex31, e_ex32, e_add, e_sub, e_mul, e_quo, e_rem, e_and, e_or, e_xor, e_shl, e_shr, e_eql, e_neq, e_lss, e_leq, e_gtr, e_geq, e_beq, e_bne, e_peq1, e_peq2, e_pne1, e_pne2, e_zeq1, e_zeq2, e_zne1, e_zne2, e_feq1, e_fne1, e_feq2, e_fne2, e_seq, e_sne, e_ta1, e_ta2, Nat.zero_add, Nat.add_zero, Bool.not_true, Bool.not_false]
    refine ⟨undef, fun w1 hJ => by rw [e_gdtf]; exact ⟨rfl, hJ⟩, ?_⟩
    refine ⟨undef, fun w1 hJ => by rw [e_gdtf]; exact ⟨rfl, hJ⟩, ?_⟩
    try simp only [e_fd, e_nck, e_pkt, e_pkf, e_gdtt, e_gdtf, e_gdft, e_gdff, e_ift, e_iff, e_not, e_ln, e_lnT, e_cp, e_cvi, e_ex20, e_ex21, e_ex30, e_ex31, e_ex32, e_add, e_sub, e_mul, e_quo, e_rem, e_and, e_or, e_xor, e_shl, e_shr, e_eql, e_neq, e_lss, e_leq, e_gtr, e_geq, e_beq, e_bne, e_peq1, e_peq2, e_pne1, e_pne2, e_zeq1, e_zeq2, e_zne1, e_zne2, e_feq1, e_fne1, e_feq2, e_fne2, e_seq, e_sne, e_ta1, e_ta2, Nat.zero_add, Nat.add_zero, Bool.not_true, Bool.not_false]
    intro w1 hJ
    exact no hJ (fun q => hw q.1)
  have hw : Wid o.width := Decidable.not_not.1 hw
  rw [decide_eq_true hw]
  simp only [Bool.not_true, e_fd, e_nck, e_pkt, e_pkf, e_gdtt, e_gdtf, e_gdft, e_gdff, e_ift, e_iff, e_not, e_ln, e_lnT, e_cp, e_cvi, e_ex20, e_ex21, e_ex30, e_ex31, e_ex32, e_add, e_sub, e_mul, e_quo, e_rem, e_and, e_or, e_xor, e_shl, e_shr, e_eql, e_neq, e_lss, e_leq, e_gtr, e_geq, e_beq, e_bne, e_peq1, e_peq2, e_pne1, e_pne2, e_zeq1, e_zeq2, e_zne1, e_zne2, e_feq1, e_fne1, e_feq2, e_fne2, e_seq, e_sne, e_ta1, e_ta2, Nat.zero_add, Nat.add_zero, Bool.not_true, Bool.not_false]
  refine ⟨wv, fun w1 hJ => by rw [e_gdff]; exact ld1_r (hJ.row' R.ma.row) rfl ⟨rfl, hJ⟩, ?_⟩
  refine R.ma.wk.ln ?_
  try simp only [e_fd, e_nck, e_pkt, e_pkf, e_gdtt, e_gdtf, e_gdft, e_gdff, e_ift, e_iff, e_not, e_ln, e_lnT, e_cp, e_cvi, e_ex20, e_ex21, e_ex30, e_ex31, e_ex32, e_add, e_sub, e_mul, e_quo, e_rem, e_and, e_or, e_xor, e_shl, e_shr, e_eql, e_neq, e_lss, e_leq, e_gtr, e_geq, e_beq, e_bne, e_peq1, e_peq2, e_pne1, e_pne2, e_zeq1, e_zeq2, e_zne1, e_zne2, e_feq1, e_fne1, e_feq2, e_fne2, e_seq, e_sne, e_ta1, e_ta2, Nat.zero_add, Nat.add_zero, Bool.not_true, Bool.not_false]
  refine ⟨I o.off, fun w1 hJ => by rw [e_gdff]; exact ld1_r (hJ.row' R.r3) rfl ⟨rfl, hJ⟩, ?_⟩
  try simp only [e_fd, e_nck, e_pkt, e_pkf, e_gdtt, e_gdtf, e_gdft, e_gdff, e_ift, e_iff, e_not, e_ln, e_lnT, e_cp, e_cvi, e_ex20, e_ex21, e_ex30, e_ex31, e_ex32, e_add, e_sub, e_mul, e_quo, e_rem, e_and, e_or, e_xor, e_shl, e_shr, e_eql, e_neq, e_lss, e_leq, e_gtr, e_geq, e_beq, e_bne, e_peq1, e_peq2, e_pne1, e_pne2, e_zeq1, e_zeq2, e_zne1, e_zne2, e_feq1, e_fne1, e_feq2, e_fne2, e_seq, e_sne, e_ta1, e_ta2, Nat.zero_add, Nat.add_zero, Bool.not_true, Bool.not_false]
  refine ⟨I o.width, fun w1 hJ => by rw [e_gdff]; exact ld1_r (hJ.row' R.r3) rfl ⟨rfl, hJ⟩, ?_⟩
  refine ⟨.bool (decide (FitsP s.work.length o.off o.width)), fun w1 hJ => by rw [e_gdff]; exact fits_ok (by omega) ⟨rfl, hJ⟩, ?_⟩
  try simp only [e_fd, e_nck, e_pkt, e_pkf, e_gdtt, e_gdtf, e_gdft, e_gdff, e_ift, e_iff, e_not, e_ln, e_lnT, e_cp, e_cvi, e_ex20, e_ex21, e_ex30, e_ex31, e_ex32, e_add, e_sub, e_mul, e_quo, e_rem, e_and, e_or, e_xor, e_shl, e_shr, e_eql, e_neq, e_lss, e_leq, e_gtr, e_geq, e_beq, e_bne, e_peq1, e_peq2, e_pne1, e_pne2, e_zeq1, e_zeq2, e_zne1, e_zne2, e_feq1, e_fne1, e_feq2, e_fne2, e_seq, e_sne, e_ta1, e_ta2, Nat.zero_add, Nat.add_zero, Bool.not_true, Bool.not_false]
  intro w1 hJ
  by_cases hf : ¬ FitsP s.work.length o.off o.width
  · rw [decide_eq_false hf]
    exact no hJ (fun q => hf q.2)
  have hf : FitsP s.work.length o.off o.width := Decidable.not_not.1 hf
  rw [decide_eq_true hf]
  have hf' := hf
  obtain ⟨f1, f2, f3, f4⟩ := hf'
  unfold s13_p9
  simp only [Bool.not_true, e_fd, e_nck, e_pkt, e_pkf, e_gdtt, e_gdtf, e_gdft, e_gdff, e_ift, e_iff, e_not, e_ln, e_lnT, e_cp, e_cvi, e_ex20, e_ex21, e_ex30, e_ex31, e_ex32, e_add, e_sub, e_mul, e_quo, e_rem, e_and, e_or, e_xor, e_shl, e_shr, e_eql, e_neq, e_lss, e_leq, e_gtr, e_geq, e_beq, e_bne, e_peq1, e_peq2, e_pne1, e_pne2, e_zeq1, e_zeq2, e_zne1, e_zne2, e_feq1, e_fne1, e_feq2, e_fne2, e_seq, e_sne, e_ta1, e_ta2, Nat.zero_add, Nat.add_zero, Bool.not_true, Bool.not_false]
  unfold s13_p8 s13_p8_d
  have k2 : Kp (fun _ => False) w (drw w1) := hJ.trans kp_drw
  generalize drw w1 = w2 at k2 ⊢
  have R2 := R.kp' k2
  have hw2 : 2 ≤ o.width := by rcases hw with q | q | q <;> omega
  obtain ⟨junk, mv, back⟩ := Mv.of R2.ma.wk R2.ma.wby (by omega)
  try simp only [e_fd, e_nck, e_pkt, e_pkf, e_gdtt, e_gdtf, e_gdft, e_gdff, e_ift, e_iff, e_not, e_ln, e_lnT, e_cp, e_cvi, e_ex20, e_ex21, e_ex30, e_ex31, e_ex32, e_add, e_sub, e_mul, e_quo, e_rem, e_and, e_or, e_xor, e_shl, e_shr, e_eql, e_neq, e_lss, e_leq, e_gtr, e_geq, e_beq, e_bne, e_peq1, e_peq2, e_pne1, e_pne2, e_zeq1, e_zeq2, e_zne1, e_zne2, e_feq1, e_fne1, e_feq2, e_fne2, e_seq, e_sne, e_ta1, e_ta2, Nat.zero_add, Nat.add_zero, Bool.not_true, Bool.not_false]
  refine ld1_r R2.ma.row rfl ?_
  try simp only [e_fd, e_nck, e_pkt, e_pkf, e_gdtt, e_gdtf, e_gdft, e_gdff, e_ift, e_iff, e_not, e_ln, e_lnT, e_cp, e_cvi, e_ex20, e_ex21, e_ex30, e_ex31, e_ex32, e_add, e_sub, e_mul, e_quo, e_rem, e_and, e_or, e_xor, e_shl, e_shr, e_eql, e_neq, e_lss, e_leq, e_gtr, e_geq, e_beq, e_bne, e_peq1, e_peq2, e_pne1, e_pne2, e_zeq1, e_zeq2, e_zne1, e_zne2, e_feq1, e_fne1, e_feq2, e_fne2, e_seq, e_sne, e_ta1, e_ta2, Nat.zero_add, Nat.add_zero, Bool.not_true, Bool.not_false]
  refine ld1_r R2.r3 rfl ?_
  refine mv.from (e := o.off.toNat) (by omega) (by omega) fun v1 mv1 join => ?_
  try simp only [e_fd, e_nck, e_pkt, e_pkf, e_gdtt, e_gdtf, e_gdft, e_gdff, e_ift, e_iff, e_not, e_ln, e_lnT, e_cp, e_cvi, e_ex20, e_ex21, e_ex30, e_ex31, e_ex32, e_add, e_sub, e_mul, e_quo, e_rem, e_and, e_or, e_xor, e_shl, e_shr, e_eql, e_neq, e_lss, e_leq, e_gtr, e_geq, e_beq, e_bne, e_peq1, e_peq2, e_pne1, e_pne2, e_zeq1, e_zeq2, e_zne1, e_zne2, e_feq1, e_fne1, e_feq2, e_fne2, e_seq, e_sne, e_ta1, e_ta2, Nat.zero_add, Nat.add_zero, Bool.not_true, Bool.not_false]
  refine ld1_r R2.r3 rfl ?_
  try simp only [e_fd, e_nck, e_pkt, e_pkf, e_gdtt, e_gdtf, e_gdft, e_gdff, e_ift, e_iff, e_not, e_ln, e_lnT, e_cp, e_cvi, e_ex20, e_ex21, e_ex30, e_ex31, e_ex32, e_add, e_sub, e_mul, e_quo, e_rem, e_and, e_or, e_xor, e_shl, e_shr, e_eql, e_neq, e_lss, e_leq, e_gtr, e_geq, e_beq, e_bne, e_peq1, e_peq2, e_pne1, e_pne2, e_zeq1, e_zeq2, e_zne1, e_zne2, e_feq1, e_fne1, e_feq2, e_fne2, e_seq, e_sne, e_ta1, e_ta2, Nat.zero_add, Nat.add_zero, Bool.not_true, Bool.not_false]
  refine ld1_r R2.r3 rfl ?_
  try simp only [e_fd, e_nck, e_pkt, e_pkf, e_gdtt, e_gdtf, e_gdft, e_gdff, e_ift, e_iff, e_not, e_ln, e_lnT, e_cp, e_cvi, e_ex20, e_ex21, e_ex30, e_ex31, e_ex32, e_add, e_sub, e_mul, e_quo, e_rem, e_and, e_or, e_xor, e_shl, e_shr, e_eql, e_neq, e_lss, e_leq, e_gtr, e_geq, e_beq, e_bne, e_peq1, e_peq2, e_pne1, e_pne2, e_zeq1, e_zeq2, e_zne1, e_zne2, e_feq1, e_fne1, e_feq2, e_fne2, e_seq, e_sne, e_ta1, e_ta2, Nat.zero_add, Nat.add_zero, Bool.not_true, Bool.not_false]
  refine ld1_r R2.r3 rfl ?_
  refine mv1.store hw (by rw [List.length_drop]; omega) wf.val.1 fun w3 m3 hk3 hz3 => ?_
  have el := enc_len (z := o.val) (little := o.little) hw
  have hlen : (enc o.width o.little o.val ++ (s.work.drop o.off.toNat).drop o.width.toNat).length = s.work.length - o.off.toNat := by
    rw [List.length_append, List.length_drop, List.length_drop]; omega
  have m4 := join mv rfl m3 hlen
  have hl4 : (s.work.take o.off.toNat ++ (enc o.width o.little o.val ++ (s.work.drop o.off.toNat).drop o.width.toNat)).length = s.work.length := by rw [List.length_append, List.length_take, hlen]; omega
  have R4 := R2.inplace hk3 (back m4 hl4) m4.by_ (by omega)
  unfold s13_p7
  refine bdq_r (l := [.bool true, .int .u64 0, .slice none 0 0]) rfl ?_
  refine R4.nil hK ?_ (by show (_ ++ _ : List Int).length ≤ _; omega)
  unfold StepR
  rw [if_neg (by omega), if_neg (by omega), if_pos hk]
  exact ⟨.inl ⟨hw, hf, rfl, rfl⟩, rfl, rfl⟩
theorem step_append (R : Sc W w0 mb wob0 o dv t3 t4 w wob wv rv s) (hK : StepK W w0 mb wob0 s o K) (wf : o.Wf) (hwl : s.work.length ≤ 90000000000) (hk : o.kind = 3) : s13_p13 K (Pt mb 0) (Pt t3 0) (Pt t4 0) w := by
  unfold s13_p13
  try simp only [e_fd, e_nck, e_pkt, e_pkf, e_gdtt, e_gdtf, e_gdft, e_gdff, e_ift, e_iff, e_not, e_ln, e_lnT, e_cp, e_cvi, e_ex20, e_ex21, e_ex30, e_ex31, e_ex32, e_add, e_sub, e_mul, e_quo, e_rem, e_and, e_or, e_xor, e_shl, e_shr, e_eql, e_neq, e_lss, e_leq, e_gtr, e_geq, e_beq, e_bne, e_peq1, e_peq2, e_pne1, e_pne2, e_zeq1, e_zeq2, e_zne1, e_zne2, e_feq1, e_fne1, e_feq2, e_fne2, e_seq, e_sne, e_ta1, e_ta2, Nat.zero_add, Nat.add_zero, Bool.not_true, Bool.not_false]
  refine ld1_r R.r3 rfl ?_
  refine goodWidth_ok ?_
  try simp only [e_fd, e_nck, e_pkt, e_pkf, e_gdtt, e_gdtf, e_gdft, e_gdff, e_ift, e_iff, e_not, e_ln, e_lnT, e_cp, e_cvi, e_ex20, e_ex21, e_ex30, e_ex31, e_ex32, e_add, e_sub, e_mul, e_quo, e_rem, e_and, e_or, e_xor, e_shl, e_shr, e_eql, e_neq, e_lss, e_leq, e_gtr, e_geq, e_beq, e_bne, e_peq1, e_peq2, e_pne1, e_pne2, e_zeq1, e_zeq2, e_zne1, e_zne2, e_feq1, e_fne1, e_feq2, e_fne2, e_seq, e_sne, e_ta1, e_ta2, Nat.zero_add, Nat.add_zero, Bool.not_true, Bool.not_false]
  by_cases hw : ¬ Wid o.width
  · rw [decide_eq_false hw]
    simp only [Bool.not_false, e_fd, e_nck, e_pkt, e_pkf, e_gdtt, e_gdtf, e_gdft, e_gdff, e_ift, e_iff, e_not, e_ln, e_lnT, e_cp, e_cvi, e_ex20, e_ex21, e_ex30, e_ex31, e_ex32, e_add, e_sub, e_mul, e_quo, e_rem, e_and, e_or, e_xor, e_shl, e_shr, e_eql, e_neq, e_lss, e_leq, e_gtr, e_geq, e_beq, e_bne, e_peq1, e_peq2, e_pne1, e_pne2, e_zeq1, e_zeq2, e_zne1, e_zne2, e_feq1, e_fne1, e_feq2, e_fne2, e_seq, e_sne, e_ta1, e_ta2, Nat.zero_add, Nat.add_zero, Bool.not_true, Bool.not_false]
    refine bdq_r (l := [.bool false, .int .u64 0, .slice none 0 0]) rfl ?_
    refine R.nil hK ?_ (by omega)
    unfold StepR
    rw [if_neg (by omega), if_neg (by omega), if_neg (by omega), if_pos hk]
    exact ⟨.inr ⟨hw, rfl, rfl⟩, rfl, rfl⟩
  have hw : Wid o.width := Decidable.not_not.1 hw
  rw [decide_eq_true hw]
  simp only [Bool.not_true, e_fd, e_nck, e_pkt, e_pkf, e_gdtt, e_gdtf, e_gdft, e_gdff, e_ift, e_iff, e_not, e_ln, e_lnT, e_cp, e_cvi, e_ex20, e_ex21, e_ex30, e_ex31, e_ex32, e_add, e_sub, e_mul, e_quo, e_rem, e_and, e_or, e_xor, e_shl, e_shr, e_eql, e_neq, e_lss, e_leq, e_gtr, e_geq, e_beq, e_bne, e_peq1, e_peq2, e_pne1, e_pne2, e_zeq1, e_zeq2, e_zne1, e_zne2, e_feq1, e_fne1, e_feq2, e_fne2, e_seq, e_sne, e_ta1, e_ta2, Nat.zero_add, Nat.add_zero, Bool.not_true, Bool.not_false]
  unfold s13_p12 s13_p12_d
  have R := R.kp' (w' := drw w) kp_drw
  generalize drw w = w at R ⊢
  try simp only [e_fd, e_nck, e_pkt, e_pkf, e_gdtt, e_gdtf, e_gdft, e_gdff, e_ift, e_iff, e_not, e_ln, e_lnT, e_cp, e_cvi, e_ex20, e_ex21, e_ex30, e_ex31, e_ex32, e_add, e_sub, e_mul, e_quo, e_rem, e_and, e_or, e_xor, e_shl, e_shr, e_eql, e_neq, e_lss, e_leq, e_gtr, e_geq, e_beq, e_bne, e_peq1, e_peq2, e_pne1, e_pne2, e_zeq1, e_zeq2, e_zne1, e_zne2, e_feq1, e_fne1, e_feq2, e_fne2, e_seq, e_sne, e_ta1, e_ta2, Nat.zero_add, Nat.add_zero, Bool.not_true, Bool.not_false]
  refine ld1_r R.ma.row rfl ?_
  try simp only [e_fd, e_nck, e_pkt, e_pkf, e_gdtt, e_gdtf, e_gdft, e_gdff, e_ift, e_iff, e_not, e_ln, e_lnT, e_cp, e_cvi, e_ex20, e_ex21, e_ex30, e_ex31, e_ex32, e_add, e_sub, e_mul, e_quo, e_rem, e_and, e_or, e_xor, e_shl, e_shr, e_eql, e_neq, e_lss, e_leq, e_gtr, e_geq, e_beq, e_bne, e_peq1, e_peq2, e_pne1, e_pne2, e_zeq1, e_zeq2, e_zne1, e_zne2, e_feq1, e_fne1, e_feq2, e_fne2, e_seq, e_sne, e_ta1, e_ta2, Nat.zero_add, Nat.add_zero, Bool.not_true, Bool.not_false]
  refine ld1_r R.r3 rfl ?_
  try simp only [e_fd, e_nck, e_pkt, e_pkf, e_gdtt, e_gdtf, e_gdft, e_gdff, e_ift, e_iff, e_not, e_ln, e_lnT, e_cp, e_cvi, e_ex20, e_ex21, e_ex30, e_ex31, e_ex32, e_add, e_sub, e_mul, e_quo, e_rem, e_and, e_or, e_xor, e_shl, e_shr, e_eql, e_neq, e_lss, e_leq, e_gtr, e_geq, e_beq, e_bne, e_peq1, e_peq2, e_pne1, e_pne2, e_zeq1, e_zeq2, e_zne1, e_zne2, e_feq1, e_fne1, e_feq2, e_fne2, e_seq, e_sne, e_ta1, e_ta2, Nat.zero_add, Nat.add_zero, Bool.not_true, Bool.not_false]
  refine ld1_r R.r3 rfl ?_
  try simp only [e_fd, e_nck, e_pkt, e_pkf, e_gdtt, e_gdtf, e_gdft, e_gdff, e_ift, e_iff, e_not, e_ln, e_lnT, e_cp, e_cvi, e_ex20, e_ex21, e_ex30, e_ex31, e_ex32, e_add, e_sub, e_mul, e_quo, e_rem, e_and, e_or, e_xor, e_shl, e_shr, e_eql, e_neq, e_lss, e_leq, e_gtr, e_geq, e_beq, e_bne, e_peq1, e_peq2, e_pne1, e_pne2, e_zeq1, e_zeq2, e_zne1, e_zne2, e_feq1, e_fne1, e_feq2, e_fne2, e_seq, e_sne, e_ta1, e_ta2, Nat.zero_add, Nat.add_zero, Bool.not_true, Bool.not_false]
  refine ld1_r R.r3 rfl ?_
  try simp only [e_fd, e_nck, e_pkt, e_pkf, e_gdtt, e_gdtf, e_gdft, e_gdff, e_ift, e_iff, e_not, e_ln, e_lnT, e_cp, e_cvi, e_ex20, e_ex21, e_ex30, e_ex31, e_ex32, e_add, e_sub, e_mul, e_quo, e_rem, e_and, e_or, e_xor, e_shl, e_shr, e_eql, e_neq, e_lss, e_leq, e_gtr, e_geq, e_beq, e_bne, e_peq1, e_peq2, e_pne1, e_pne2, e_zeq1, e_zeq2, e_zne1, e_zne2, e_feq1, e_fne1, e_feq2, e_fne2, e_seq, e_sne, e_ta1, e_ta2, Nat.zero_add, Nat.add_zero, Bool.not_true, Bool.not_false]
  refine extend_ok hw R.ma.wk (by omega) wf.val.1 fun w1 v1 ob1 s1 hk1 ho1 => ?_
  have r1 := hk1.row R.ma.row (fun q => R.ma.nw mb q rfl)
  refine st1_r r1 (show 0 < 4 by decide) (sl_scal s1) fun w2 r2 hk2 hz2 => ?_
  have s2 : Sl u1 1 w2 5 ob1 v1 (s.work ++ enc o.width o.little o.val) := s1.kp hk2 (fun b hb (e : b = mb) => by
    obtain ⟨l, hr⟩ := s1.row hb
    exact row_ne hr r1 (by decide) e)
  have k02 : Kp (fun k => k = mb ∨ wob = some k) w w2 := (hk1.mono fun _ _ q => .inr q).trans (hk2.mono fun _ _ q => .inl q)
  have he := enc_le (z := o.val) (little := o.little) hw
  have hl2 : (s.work ++ enc o.width o.little o.val).length ≤ s.work.length + 8 := by rw [List.length_append]; omega
  have m2 := R.ma.setW k02 r2 s2 (R.ma.wby.app enc_by) (by omega) ho1
  have R2 := R.step k02 m2 ho1
  unfold s13_p11
  refine bdq_r (l := [.bool true, .int .u64 0, .slice none 0 0]) rfl ?_
  refine R2.nil hK ?_ (by show (_ ++ _ : List Int).length ≤ _; omega)
  unfold StepR
  rw [if_neg (by omega), if_neg (by omega), if_neg (by omega), if_pos hk]
  exact ⟨.inl ⟨hw, rfl, rfl⟩, rfl, rfl⟩
theorem shP_len2 {p : Nat} {i : Nat} : (shP p xs i).length = xs.length := shP_len p xs i
theorem rotR_len {k : Nat} : (rotR xs k).length = xs.length := by
  unfold rotR
  split
  · exact rotB_len
  · rw [shP_len, rotB_len]
theorem rotL_len {q : Int} : (rotL xs q).length = xs.length := by unfold rotL; split; rfl; exact rotR_len
theorem rotRt_len {q : Int} : (rotRt xs q).length = xs.length := by unfold rotRt; split; rfl; exact rotR_len
theorem step_rotl (R : Sc W w0 mb wob0 o dv t3 t4 w wob wv rv s) (hK : StepK W w0 mb wob0 s o K) (hk : o.kind = 4) : s13_p15 K (Pt mb 0) (Pt t3 0) (Pt t4 0) w := by
  unfold s13_p15 s13_p15_d
  have R := R.kp' (w' := drw w) kp_drw
  generalize drw w = w at R ⊢
  have hwl := R.ma.wl
  obtain ⟨junk, mv, back⟩ := Mv.of R.ma.wk R.ma.wby (by omega)
  try simp only [e_fd, e_nck, e_pkt, e_pkf, e_gdtt, e_gdtf, e_gdft, e_gdff, e_ift, e_iff, e_not, e_ln, e_lnT, e_cp, e_cvi, e_ex20, e_ex21, e_ex30, e_ex31, e_ex32, e_add, e_sub, e_mul, e_quo, e_rem, e_and, e_or, e_xor, e_shl, e_shr, e_eql, e_neq, e_lss, e_leq, e_gtr, e_geq, e_beq, e_bne, e_peq1, e_peq2, e_pne1, e_pne2, e_zeq1, e_zeq2, e_zne1, e_zne2, e_feq1, e_fne1, e_feq2, e_fne2, e_seq, e_sne, e_ta1, e_ta2, Nat.zero_add, Nat.add_zero, Bool.not_true, Bool.not_false]
  refine ld1_r R.ma.row rfl ?_
  try simp only [e_fd, e_nck, e_pkt, e_pkf, e_gdtt, e_gdtf, e_gdft, e_gdff, e_ift, e_iff, e_not, e_ln, e_lnT, e_cp, e_cvi, e_ex20, e_ex21, e_ex30, e_ex31, e_ex32, e_add, e_sub, e_mul, e_quo, e_rem, e_and, e_or, e_xor, e_shl, e_shr, e_eql, e_neq, e_lss, e_leq, e_gtr, e_geq, e_beq, e_bne, e_peq1, e_peq2, e_pne1, e_pne2, e_zeq1, e_zeq2, e_zne1, e_zne2, e_feq1, e_fne1, e_feq2, e_fne2, e_seq, e_sne, e_ta1, e_ta2, Nat.zero_add, Nat.add_zero, Bool.not_true, Bool.not_false]
  refine ld1_r R.r3 rfl ?_
  refine rotateLeft_ok mv fun w1 m1 hk1 hz1 => ?_
  have m1 : Mv w1 wv wob 0 (rotL s.work o.off) [] junk := m1
  have R1 := R.inplace hk1 (back m1 rotL_len) m1.by_ (by rw [rotL_len]; exact hwl)
  unfold s13_p14
  refine bdq_r (l := [.bool true, .int .u64 0, .slice none 0 0]) rfl ?_
  refine R1.nil hK ?_ (by show (rotL s.work o.off).length ≤ _; rw [rotL_len]; omega)
  unfold StepR
  rw [if_neg (by omega), if_neg (by omega), if_neg (by omega), if_neg (by omega), if_pos hk]
  exact ⟨rfl, rfl, rfl, rfl⟩
theorem step_rotr (R : Sc W w0 mb wob0 o dv t3 t4 w wob wv rv s) (hK : StepK W w0 mb wob0 s o K) (hk : o.kind = 5) : s13_p17 K (Pt mb 0) (Pt t3 0) (Pt t4 0) w := by
  unfold s13_p17 s13_p17_d
  have R := R.kp' (w' := drw w) kp_drw
  generalize drw w = w at R ⊢
  have hwl := R.ma.wl
  obtain ⟨junk, mv, back⟩ := Mv.of R.ma.wk R.ma.wby (by omega)
  try simp only [e_fd, e_nck, e_pkt, e_pkf, e_gdtt, e_gdtf, e_gdft, e_gdff, e_ift, e_iff, e_not, e_ln, e_lnT, e_cp, e_cvi, e_ex20, e_ex21, e_ex30, e_ex31, e_ex32, e_add, e_sub, e_mul, e_quo, e_rem, e_and, e_or, e_xor, e_shl, e_shr, e_eql, e_neq, e_lss, e_leq, e_gtr, e_geq, e_beq, e_bne, e_peq1, e_peq2, e_pne1, e_pne2, e_zeq1, e_zeq2, e_zne1, e_zne2, e_feq1, e_fne1, e_feq2, e_fne2, e_seq, e_sne, e_ta1, e_ta2, Nat.zero_add, Nat.add_zero, Bool.not_true, Bool.not_false]
  refine ld1_r R.ma.row rfl ?_
  try simp only [e_fd, e_nck, e_pkt, e_pkf, e_gdtt, e_gdtf, e_gdft, e_gdff, e_ift, e_iff, e_not, e_ln, e_lnT, e_cp, e_cvi, e_ex20, e_ex21, e_ex30, e_ex31, e_ex32, e_add, e_sub, e_mul, e_quo, e_rem, e_and, e_or, e_xor, e_shl, e_shr, e_eql, e_neq, e_lss, e_leq, e_gtr, e_geq, e_beq, e_bne, e_peq1, e_peq2, e_pne1, e_pne2, e_zeq1, e_zeq2, e_zne1, e_zne2, e_feq1, e_fne1, e_feq2, e_fne2, e_seq, e_sne, e_ta1, e_ta2, Nat.zero_add, Nat.add_zero, Bool.not_true, Bool.not_false]
  refine ld1_r R.r3 rfl ?_
  refine rotateRight_ok mv (fun _ => trivial) fun w1 m1 hk1 hz1 => ?_
  have m1 : Mv w1 wv wob 0 (rotRt s.work o.off) [] junk := m1
  have R1 := R.inplace hk1 (back m1 rotRt_len) m1.by_ (by rw [rotRt_len]; exact hwl)
  unfold s13_p16
  refine bdq_r (l := [.bool true, .int .u64 0, .slice none 0 0]) rfl ?_
  refine R1.nil hK ?_ (by show (rotRt s.work o.off).length ≤ _; rw [rotRt_len]; omega)
  unfold StepR
  rw [if_neg (by omega), if_neg (by omega), if_neg (by omega), if_neg (by omega), if_neg (by omega), if_pos hk]
  exact ⟨rfl, rfl, rfl, rfl⟩
theorem step_add (R : Sc W w0 mb wob0 o dv t3 t4 w wob wv rv s) (hK : StepK W w0 mb wob0 s o K) (hd : Bs W dv o.data) (hk : o.kind = 6) : s13_p19 K (Pt mb 0) (Pt t3 0) (Pt t4 0) w := by
  unfold s13_p19 s13_p19_d
  have R := R.kp' (w' := drw w) kp_drw
  generalize drw w = w at R ⊢
  have hwl := R.ma.wl
  obtain ⟨junk, mv, back⟩ := Mv.of R.ma.wk R.ma.wby (by omega)
  try simp only [e_fd, e_nck, e_pkt, e_pkf, e_gdtt, e_gdtf, e_gdft, e_gdff, e_ift, e_iff, e_not, e_ln, e_lnT, e_cp, e_cvi, e_ex20, e_ex21, e_ex30, e_ex31, e_ex32, e_add, e_sub, e_mul, e_quo, e_rem, e_and, e_or, e_xor, e_shl, e_shr, e_eql, e_neq, e_lss, e_leq, e_gtr, e_geq, e_beq, e_bne, e_peq1, e_peq2, e_pne1, e_pne2, e_zeq1, e_zeq2, e_zne1, e_zne2, e_feq1, e_fne1, e_feq2, e_fne2, e_seq, e_sne, e_ta1, e_ta2, Nat.zero_add, Nat.add_zero, Bool.not_true, Bool.not_false]
  refine ld1_r R.ma.row rfl ?_
  try simp only [e_fd, e_nck, e_pkt, e_pkf, e_gdtt, e_gdtf, e_gdft, e_gdff, e_ift, e_iff, e_not, e_ln, e_lnT, e_cp, e_cvi, e_ex20, e_ex21, e_ex30, e_ex31, e_ex32, e_add, e_sub, e_mul, e_quo, e_rem, e_and, e_or, e_xor, e_shl, e_shr, e_eql, e_neq, e_lss, e_leq, e_gtr, e_geq, e_beq, e_bne, e_peq1, e_peq2, e_pne1, e_pne2, e_zeq1, e_zeq2, e_zne1, e_zne2, e_feq1, e_fne1, e_feq2, e_fne2, e_seq, e_sne, e_ta1, e_ta2, Nat.zero_add, Nat.add_zero, Bool.not_true, Bool.not_false]
  refine ld1_r R.r3 rfl ?_
  refine addOnes_ok mv (R.data hd) (fun hn => ?_) (fun he w1 zs m1 hlz hres hk1 hz1 => ?_)
  · refine bdq_r (l := [.bool false, .int .u64 0, .slice none 0 0]) rfl ?_
    refine R.nil hK ?_ (by omega)
    unfold StepR
    rw [if_neg (by omega), if_neg (by omega), if_neg (by omega), if_neg (by omega), if_neg (by omega), if_neg (by omega), if_pos hk]
    exact ⟨.inr ⟨hn, rfl, rfl⟩, rfl, rfl⟩
  · have R1 := R.inplace hk1 (back m1 hlz) m1.by_ (by omega)
    refine bdq_r (l := [.bool true, .int .u64 0, .slice none 0 0]) rfl ?_
    refine R1.nil hK ?_ (by show zs.length ≤ _; omega)
    unfold StepR
    rw [if_neg (by omega), if_neg (by omega), if_neg (by omega), if_neg (by omega), if_neg (by omega), if_neg (by omega), if_pos hk]
    exact ⟨.inl ⟨he, rfl, zs, m1.by_, hlz, hres, rfl⟩, rfl, rfl⟩
theorem step_fold (R : Sc W w0 mb wob0 o dv t3 t4 w wob wv rv s) (hK : StepK W w0 mb wob0 s o K) (hd : Bs W dv o.data) (hdl : o.data.length ≤ 65536) (hk : o.kind = 7) : s13_p21 K (Pt mb 0) (Pt t3 0) (Pt t4 0) w := by
  unfold s13_p21 s13_p21_d
  have R := R.kp' (w' := drw w) kp_drw
  generalize drw w = w at R ⊢
  have hwl := R.ma.wl
  obtain ⟨junk, mv, back⟩ := Mv.of R.ma.wk R.ma.wby (by omega)
  try simp only [e_fd, e_nck, e_pkt, e_pkf, e_gdtt, e_gdtf, e_gdft, e_gdff, e_ift, e_iff, e_not, e_ln, e_lnT, e_cp, e_cvi, e_ex20, e_ex21, e_ex30, e_ex31, e_ex32, e_add, e_sub, e_mul, e_quo, e_rem, e_and, e_or, e_xor, e_shl, e_shr, e_eql, e_neq, e_lss, e_leq, e_gtr, e_geq, e_beq, e_bne, e_peq1, e_peq2, e_pne1, e_pne2, e_zeq1, e_zeq2, e_zne1, e_zne2, e_feq1, e_fne1, e_feq2, e_fne2, e_seq, e_sne, e_ta1, e_ta2, Nat.zero_add, Nat.add_zero, Bool.not_true, Bool.not_false]
  refine ld1_r R.ma.row rfl ?_
  try simp only [e_fd, e_nck, e_pkt, e_pkf, e_gdtt, e_gdtf, e_gdft, e_gdff, e_ift, e_iff, e_not, e_ln, e_lnT, e_cp, e_cvi, e_ex20, e_ex21, e_ex30, e_ex31, e_ex32, e_add, e_sub, e_mul, e_quo, e_rem, e_and, e_or, e_xor, e_shl, e_shr, e_eql, e_neq, e_lss, e_leq, e_gtr, e_geq, e_beq, e_bne, e_peq1, e_peq2, e_pne1, e_pne2, e_zeq1, e_zeq2, e_zne1, e_zne2, e_feq1, e_fne1, e_feq2, e_fne2, e_seq, e_sne, e_ta1, e_ta2, Nat.zero_add, Nat.add_zero, Bool.not_true, Bool.not_false]
  refine ld1_r R.r3 rfl ?_
  refine foldOnes_ok mv (R.data hd) (by omega) (fun hn => ?_) (fun he w1 zs m1 hlz hres hk1 hz1 => ?_)
  · refine bdq_r (l := [.bool false, .int .u64 0, .slice none 0 0]) rfl ?_
    refine R.nil hK ?_ (by omega)
    unfold StepR
    rw [if_neg (by omega), if_neg (by omega), if_neg (by omega), if_neg (by omega), if_neg (by omega), if_neg (by omega), if_neg (by omega), if_pos hk]
    exact ⟨.inr ⟨hn, rfl, rfl⟩, rfl, rfl⟩
  · have R1 := R.inplace hk1 (back m1 hlz) m1.by_ (by omega)
    refine bdq_r (l := [.bool true, .int .u64 0, .slice none 0 0]) rfl ?_
    refine R1.nil hK ?_ (by show zs.length ≤ _; omega)
    unfold StepR
    rw [if_neg (by omega), if_neg (by omega), if_neg (by omega), if_neg (by omega), if_neg (by omega), if_neg (by omega), if_neg (by omega), if_pos hk]
    exact ⟨.inl ⟨he, rfl, zs, m1.by_, hlz, hres, rfl⟩, rfl, rfl⟩
theorem step_xor (R : Sc W w0 mb wob0 o dv t3 t4 w wob wv rv s) (hK : StepK W w0 mb wob0 s o K) (hd : Bs W dv o.data) (hdl : o.data.length ≤ 65536) (hk : o.kind = 8) : s13_p23 K (Pt mb 0) (Pt t3 0) (Pt t4 0) w := by
  unfold s13_p23 s13_p23_d
  have R := R.kp' (w' := drw w) kp_drw
  generalize drw w = w at R ⊢
  have hwl := R.ma.wl
  obtain ⟨junk, mv, back⟩ := Mv.of R.ma.wk R.ma.wby (by omega)
  try simp only [e_fd, e_nck, e_pkt, e_pkf, e_gdtt, e_gdtf, e_gdft, e_gdff, e_ift, e_iff, e_not, e_ln, e_lnT, e_cp, e_cvi, e_ex20, e_ex21, e_ex30, e_ex31, e_ex32, e_add, e_sub, e_mul, e_quo, e_rem, e_and, e_or, e_xor, e_shl, e_shr, e_eql, e_neq, e_lss, e_leq, e_gtr, e_geq, e_beq, e_bne, e_peq1, e_peq2, e_pne1, e_pne2, e_zeq1, e_zeq2, e_zne1, e_zne2, e_feq1, e_fne1, e_feq2, e_fne2, e_seq, e_sne, e_ta1, e_ta2, Nat.zero_add, Nat.add_zero, Bool.not_true, Bool.not_false]
  refine ld1_r R.ma.row rfl ?_
  try simp only [e_fd, e_nck, e_pkt, e_pkf, e_gdtt, e_gdtf, e_gdft, e_gdff, e_ift, e_iff, e_not, e_ln, e_lnT, e_cp, e_cvi, e_ex20, e_ex21, e_ex30, e_ex31, e_ex32, e_add, e_sub, e_mul, e_quo, e_rem, e_and, e_or, e_xor, e_shl, e_shr, e_eql, e_neq, e_lss, e_leq, e_gtr, e_geq, e_beq, e_bne, e_peq1, e_peq2, e_pne1, e_pne2, e_zeq1, e_zeq2, e_zne1, e_zne2, e_feq1, e_fne1, e_feq2, e_fne2, e_seq, e_sne, e_ta1, e_ta2, Nat.zero_add, Nat.add_zero, Bool.not_true, Bool.not_false]
  refine ld1_r R.ma.row rfl ?_
  try simp only [e_fd, e_nck, e_pkt, e_pkf, e_gdtt, e_gdtf, e_gdft, e_gdff, e_ift, e_iff, e_not, e_ln, e_lnT, e_cp, e_cvi, e_ex20, e_ex21, e_ex30, e_ex31, e_ex32, e_add, e_sub, e_mul, e_quo, e_rem, e_and, e_or, e_xor, e_shl, e_shr, e_eql, e_neq, e_lss, e_leq, e_gtr, e_geq, e_beq, e_bne, e_peq1, e_peq2, e_pne1, e_pne2, e_zeq1, e_zeq2, e_zne1, e_zne2, e_feq1, e_fne1, e_feq2, e_fne2, e_seq, e_sne, e_ta1, e_ta2, Nat.zero_add, Nat.add_zero, Bool.not_true, Bool.not_false]
  refine ld1_r R.r3 rfl ?_
  refine xor_ok mv (R.data hd) (by omega) fun w1 m1 hk1 => ?_
  have hxl := xorP_len s.work o.data (min s.work.length o.data.length)
  have R1 := R.inplace hk1 (back m1 hxl) m1.by_ (by omega)
  try simp only [e_fd, e_nck, e_pkt, e_pkf, e_gdtt, e_gdtf, e_gdft, e_gdff, e_ift, e_iff, e_not, e_ln, e_lnT, e_cp, e_cvi, e_ex20, e_ex21, e_ex30, e_ex31, e_ex32, e_add, e_sub, e_mul, e_quo, e_rem, e_and, e_or, e_xor, e_shl, e_shr, e_eql, e_neq, e_lss, e_leq, e_gtr, e_geq, e_beq, e_bne, e_peq1, e_peq2, e_pne1, e_pne2, e_zeq1, e_zeq2, e_zne1, e_zne2, e_feq1, e_fne1, e_feq2, e_fne2, e_seq, e_sne, e_ta1, e_ta2, Nat.zero_add, Nat.add_zero, Bool.not_true, Bool.not_false]
  rw [wrapu64, show ((min s.work.length o.data.length : Nat) : Int) % 18446744073709551616 = ((min s.work.length o.data.length : Nat) : Int) by omega]
  refine bdq_r (l := [.bool true, .int .u64 (min s.work.length o.data.length : Nat), .slice none 0 0]) rfl ?_
  refine R1.nil hK ?_ (by show (xorP s.work o.data _).length ≤ _; omega)
  unfold StepR
  rw [if_neg (by omega), if_neg (by omega), if_neg (by omega), if_neg (by omega), if_neg (by omega), if_neg (by omega), if_neg (by omega), if_neg (by omega), if_pos hk]
  exact ⟨rfl, rfl, rfl, rfl⟩
theorem step_equal (R : Sc W w0 mb wob0 o dv t3 t4 w wob wv rv s) (hK : StepK W w0 mb wob0 s o K) (hd : Bs W dv o.data) (hk : o.kind = 9) : s13_p25 K (Pt mb 0) (Pt t3 0) (Pt t4 0) w := by
  unfold s13_p25 s13_p25_d
  have R := R.kp' (w' := drw w) kp_drw
  generalize drw w = w at R ⊢
  have hwl := R.ma.wl
  try simp only [e_fd, e_nck, e_pkt, e_pkf, e_gdtt, e_gdtf, e_gdft, e_gdff, e_ift, e_iff, e_not, e_ln, e_lnT, e_cp, e_cvi, e_ex20, e_ex21, e_ex30, e_ex31, e_ex32, e_add, e_sub, e_mul, e_quo, e_rem, e_and, e_or, e_xor, e_shl, e_shr, e_eql, e_neq, e_lss, e_leq, e_gtr, e_geq, e_beq, e_bne, e_peq1, e_peq2, e_pne1, e_pne2, e_zeq1, e_zeq2, e_zne1, e_zne2, e_feq1, e_fne1, e_feq2, e_fne2, e_seq, e_sne, e_ta1, e_ta2, Nat.zero_add, Nat.add_zero, Bool.not_true, Bool.not_false]
  refine ld1_r R.ma.row rfl ?_
  try simp only [e_fd, e_nck, e_pkt, e_pkf, e_gdtt, e_gdtf, e_gdft, e_gdff, e_ift, e_iff, e_not, e_ln, e_lnT, e_cp, e_cvi, e_ex20, e_ex21, e_ex30, e_ex31, e_ex32, e_add, e_sub, e_mul, e_quo, e_rem, e_and, e_or, e_xor, e_shl, e_shr, e_eql, e_neq, e_lss, e_leq, e_gtr, e_geq, e_beq, e_bne, e_peq1, e_peq2, e_pne1, e_pne2, e_zeq1, e_zeq2, e_zne1, e_zne2, e_feq1, e_fne1, e_feq2, e_fne2, e_seq, e_sne, e_ta1, e_ta2, Nat.zero_add, Nat.add_zero, Bool.not_true, Bool.not_false]
  refine ld1_r R.r3 rfl ?_
  refine equal_ok R.ma.wbs (hd.kp' R.ma.kp) (by omega) fun w1 hk1 => ?_
  refine bdq_r (l := [.bool (decide (s.work = o.data)), .int .u64 0, .slice none 0 0]) rfl ?_
  refine (R.kp' hk1).nil hK ?_ (by omega)
  unfold StepR
  rw [if_neg (by omega), if_neg (by omega), if_neg (by omega), if_neg (by omega), if_neg (by omega), if_neg (by omega), if_neg (by omega), if_neg (by omega), if_neg (by omega), if_pos hk]
  exact ⟨rfl, rfl, rfl, rfl⟩
end
end Go.Proofs.Qxb6500898a
