import Derived.Test.Qxb6500896aGreatK20
namespace Go.Proofs.Qxb6500896aGreat
open Go.Sh Go.RowKit
set_option linter.unusedVariables false
set_option linter.unusedSimpArgs false

def fs21 : List Value := (List.range 21).map fun i => .func (.func (61 + i)) #[] #[]
section
variable {F M S : Nat → Prop} {w w' : World} {cb : Nat} {K : Value → World → Prop}
theorem row_d {b c : Nat} {t : TypeId} {l l' : List Value} (h : Row w b t l) (h' : Row w c t l') (hn : l ≠ l') : b ≠ c := by
  rintro rfl
  unfold Row at h h'
  rw [h] at h'
  injection h' with h'
  injection h' with h'
  exact hn (by simpa using h')
theorem all_sp : ∀ i : Nat, i < 21 → okF Tryz.prog (61 + i) = true ∧ Spoils (61 + i)
  | 0, _ => ⟨by kernel_rfl, sp1⟩
  | 1, _ => ⟨by kernel_rfl, sp2⟩
  | 2, _ => ⟨by kernel_rfl, sp3⟩
  | 3, _ => ⟨by kernel_rfl, sp4⟩
  | 4, _ => ⟨by kernel_rfl, sp5⟩
  | 5, _ => ⟨by kernel_rfl, sp6⟩
  | 6, _ => ⟨by kernel_rfl, sp7⟩
  | 7, _ => ⟨by kernel_rfl, sp8⟩
  | 8, _ => ⟨by kernel_rfl, sp9⟩
  | 9, _ => ⟨by kernel_rfl, sp10⟩
  | 10, _ => ⟨by kernel_rfl, sp11⟩
  | 11, _ => ⟨by kernel_rfl, sp12⟩
  | 12, _ => ⟨by kernel_rfl, sp13⟩
  | 13, _ => ⟨by kernel_rfl, sp14⟩
  | 14, _ => ⟨by kernel_rfl, sp15⟩
  | 15, _ => ⟨by kernel_rfl, sp16⟩
  | 16, _ => ⟨by kernel_rfl, sp17⟩
  | 17, _ => ⟨by kernel_rfl, sp18⟩
  | 18, _ => ⟨by kernel_rfl, sp19⟩
  | 19, _ => ⟨by kernel_rfl, sp20⟩
  | 20, _ => ⟨by kernel_rfl, sp21⟩
  | n + 21, h => absurd (show n + 21 < 21 from h) (by omega)
theorem pj_ok (hK : ∀ w', Kp Emp w w' → K (.agg #[I 48, I 72, I 1200]) w') : cl Tryz.prog 19 #[] K w := by
  apply c19
  unfold s19_p1
  refine nw_r fun w1 r1 hk1 hz1 => ?_
  refine bdq_r (l := [I 48, I 72, I 1200]) rfl ?_
  refine stn_r (cs := [I 48, I 72, I 1200]) r1 rfl (show 0 + 3 ≤ 3 by decide) rfl fun w2 r2 hk2 hz2 => ?_
  replace r2 : Row w2 w.heap.size 27 [I 48, I 72, I 1200] := r2
  refine ldn_r r2 (show 0 + 3 ≤ 3 by decide) ?_
  exact hK w2 (hk1.then hk2 fun k hk (q : k = _) => by omega)
theorem n21 : ((21 : Int) != 21) = false := rfl
theorem sm72 : small 72 := ⟨by decide, by decide⟩
/-- one turn -/
theorem cfg_turn {i fb : Nat} {ft : TypeId} (hf : Row w fb ft fs21) (hi : i < 21) {B : List Value → World → Prop}
    (hK : ∀ w', Kp Emp w w' → B [.slice (some ⟨fb, 0, none⟩) 21 21, I 21, I (i + 1 : Nat)] w') : s16_p5 K B (.slice (some ⟨fb, 0, none⟩) 21 21) (I 21) (I i) w := by
  unfold s16_p5
  refine ⟨⟨by omega, by omega⟩, ?_⟩
  have e1 : ((i : Int)).toNat = i := by omega
  rw [e1, add_mk]
  refine ld1_r hf (v := .func (.func (61 + i)) #[] #[]) (by simp [fs21, hi]) ?_
  refine park_raw fun w1 ab tb r0 r1 r2 hk1 na nt n0 n1 n2 ra h0 h1 h2 ht => ?_
  refine nw_r fun w2 rc hk2 hz2 => ?_
  refine stn_r (cs := park.cells (S3 ab) (S3 tb)) rc rfl (show 0 + 14 ≤ 14 by decide) rfl fun w3 rc3 hk3 hz3 => ?_
  replace rc3 : Row w3 w1.heap.size 34 (park.cells (S3 ab) (S3 tb)) := rc3
  obtain ⟨ok, sp⟩ := all_sp i hi
  refine ⟨ok, ?_⟩
  have k3 : Kp Emp w1 w3 := hk2.then hk3 fun k hk (q : k = _) => by omega
  have pm : PM w3 w1.heap.size ab tb r0 r1 r2 := ⟨rc3, k3.row' ra, k3.row' ht, k3.row' h0, k3.row' h1, k3.row' h2, row_d h0 h2 (by simp), row_d h1 h2 (by simp)⟩
  refine sp w3 _ ab tb r0 r1 r2 _ pm fun w4 hk4 hbad => ?_
  obtain ⟨C, l, rl, hc, hv, hh⟩ := hbad
  have k4 : Kp Emp w w4 := (hk1.trans k3).then hk4 fun k hk q => by
    rcases q with (q | q | q | q | q) | q <;> subst q
    · have := na.1; omega
    · have := nt.1; omega
    · have := n0.1; omega
    · have := n1.1; omega
    · have := n2.1; omega
    · have := hk1.size; omega
  unfold s16_p4 s16_p4_d
  have kd : Kp Emp w4 (drw w4) := kp_drw
  generalize drw w4 = w5 at kd ⊢
  have hcl := hc.len
  refine ldn_r (kd.row' rl) (by omega) ?_
  have el : (l.drop 0).take 14 = l := by rw [List.drop_zero, List.take_of_length_le (by omega)]
  rw [el]
  refine pj_ok fun w6 hk6 => ⟨hk6.below', ?_⟩
  refine jnew_ok (M := Emp) sm72 (fun _ q => q.elim) fun w7 M7 j hx7 hk7 hj hjn => ⟨(hk6.trans hk7).below', ?_⟩
  refine open_bad (((hc.kp' kd).kp' hk6).kp' hk7) hh hv fun w8 ev hk8 her => ?_
  have k8 : Kp Emp w w8 := (((k4.trans kd).trans hk6).trans hk7).trans hk8
  have fin : s16_p3 K B (.pointer none) ev (.slice (some ⟨fb, 0, none⟩) 21 21) (I 21) (I i) w8 := by
    unfold s16_p3
    try simp only [e_fd, e_nck, e_pkt, e_pkf, e_gdtt, e_gdtf, e_gdft, e_gdff, e_ift, e_iff, e_not, e_ln, e_lnT, e_cp, e_cvi, e_ex20, e_ex21, e_ex30, e_ex31, e_ex32, e_add, e_sub, e_mul, e_quo, e_rem, e_and, e_or, e_xor, e_shl, e_shr, e_eql, e_neq, e_lss, e_leq, e_gtr, e_geq, e_beq, e_bne, e_peq1, e_peq2, e_pne1, e_pne2, e_zeq1, e_zeq2, e_zne1, e_zne2, e_feq1, e_fne1, e_feq2, e_fne2, e_seq, e_sne, e_ta1, e_ta2, Nat.zero_add, Nat.add_zero, Bool.not_true, Bool.not_false]
    refine codeOf_ok her ?_
    simp only [n21, e_fd, e_nck, e_pkt, e_pkf, e_gdtt, e_gdtf, e_gdft, e_gdff, e_ift, e_iff, e_not, e_ln, e_lnT, e_cp, e_cvi, e_ex20, e_ex21, e_ex30, e_ex31, e_ex32, e_add, e_sub, e_mul, e_quo, e_rem, e_and, e_or, e_xor, e_shl, e_shr, e_eql, e_neq, e_lss, e_leq, e_gtr, e_geq, e_beq, e_bne, e_peq1, e_peq2, e_pne1, e_pne2, e_zeq1, e_zeq2, e_zne1, e_zne2, e_feq1, e_fne1, e_feq2, e_fne2, e_seq, e_sne, e_ta1, e_ta2, Nat.zero_add, Nat.add_zero, Bool.not_true, Bool.not_false]
    unfold s16_p2
    try simp only [e_fd, e_nck, e_pkt, e_pkf, e_gdtt, e_gdtf, e_gdft, e_gdff, e_ift, e_iff, e_not, e_ln, e_lnT, e_cp, e_cvi, e_ex20, e_ex21, e_ex30, e_ex31, e_ex32, e_add, e_sub, e_mul, e_quo, e_rem, e_and, e_or, e_xor, e_shl, e_shr, e_eql, e_neq, e_lss, e_leq, e_gtr, e_geq, e_beq, e_bne, e_peq1, e_peq2, e_pne1, e_pne2, e_zeq1, e_zeq2, e_zne1, e_zne2, e_feq1, e_fne1, e_feq2, e_fne2, e_seq, e_sne, e_ta1, e_ta2, Nat.zero_add, Nat.add_zero, Bool.not_true, Bool.not_false]
    rw [inc i (by omega)]
    exact hK w8 k8
  exact ⟨⟨fin, fin⟩, fin⟩
theorem park_imN : ImN (img park (sg0 park)) := by
  refine ⟨⟨by decide, by decide⟩, ⟨by decide, by decide⟩, by simp [img, sg0], fun l hl x hx => ?_, by decide⟩
  have e : l = [] := by simpa [img, sg0, park, parkA] using hl
  rw [e] at hx
  cases hx
theorem config_law (hK : ∀ w', Kp Emp w w' → K (.bool true) w') : cl Tryz.prog 16 #[] K w := by
  apply c16
  unfold s16_p8
  refine bsq_r (l := fs21) rfl fun w1 r1 hk1 hz1 => ?_
  try simp only [e_fd, e_nck, e_pkt, e_pkf, e_gdtt, e_gdtf, e_gdft, e_gdff, e_ift, e_iff, e_not, e_ln, e_lnT, e_cp, e_cvi, e_ex20, e_ex21, e_ex30, e_ex31, e_ex32, e_add, e_sub, e_mul, e_quo, e_rem, e_and, e_or, e_xor, e_shl, e_shr, e_eql, e_neq, e_lss, e_leq, e_gtr, e_geq, e_beq, e_bne, e_peq1, e_peq2, e_pne1, e_pne2, e_zeq1, e_zeq2, e_zne1, e_zne2, e_feq1, e_fne1, e_feq2, e_fne2, e_seq, e_sne, e_ta1, e_ta2, Nat.zero_add, Nat.add_zero, Bool.not_true, Bool.not_false]
  unfold s16_p7
  refine loop_n 21 (fun i l w' => Kp Emp w1 w' ∧ l = [.slice (some ⟨w.heap.size, 0, none⟩) 21 21, I 21, I i]) ⟨Kp.refl _ _, rfl⟩ ?_ ?_
  · rintro i l w2 hi ⟨hk2, rfl⟩ B hB
    rw [s16_p7_Fe]
    unfold s16_p6
    try simp only [e_fd, e_nck, e_pkt, e_pkf, e_gdtt, e_gdtf, e_gdft, e_gdff, e_ift, e_iff, e_not, e_ln, e_lnT, e_cp, e_cvi, e_ex20, e_ex21, e_ex30, e_ex31, e_ex32, e_add, e_sub, e_mul, e_quo, e_rem, e_and, e_or, e_xor, e_shl, e_shr, e_eql, e_neq, e_lss, e_leq, e_gtr, e_geq, e_beq, e_bne, e_peq1, e_peq2, e_pne1, e_pne2, e_zeq1, e_zeq2, e_zne1, e_zne2, e_feq1, e_fne1, e_feq2, e_fne2, e_seq, e_sne, e_ta1, e_ta2, Nat.zero_add, Nat.add_zero, Bool.not_true, Bool.not_false]
    rw [show (decide ((i : Int) < 21)) = true from decide_eq_true (by omega)]
    try simp only [e_fd, e_nck, e_pkt, e_pkf, e_gdtt, e_gdtf, e_gdft, e_gdff, e_ift, e_iff, e_not, e_ln, e_lnT, e_cp, e_cvi, e_ex20, e_ex21, e_ex30, e_ex31, e_ex32, e_add, e_sub, e_mul, e_quo, e_rem, e_and, e_or, e_xor, e_shl, e_shr, e_eql, e_neq, e_lss, e_leq, e_gtr, e_geq, e_beq, e_bne, e_peq1, e_peq2, e_pne1, e_pne2, e_zeq1, e_zeq2, e_zne1, e_zne2, e_feq1, e_fne1, e_feq2, e_fne2, e_seq, e_sne, e_ta1, e_ta2, Nat.zero_add, Nat.add_zero, Bool.not_true, Bool.not_false]
    exact cfg_turn (hk2.row' r1) hi fun w3 hk3 => hB _ w3 ⟨hk2.trans hk3, rfl⟩
  · rintro l w2 ⟨hk2, rfl⟩ B
    rw [s16_p7_Fe]
    unfold s16_p6
    try simp only [e_fd, e_nck, e_pkt, e_pkf, e_gdtt, e_gdtf, e_gdft, e_gdff, e_ift, e_iff, e_not, e_ln, e_lnT, e_cp, e_cvi, e_ex20, e_ex21, e_ex30, e_ex31, e_ex32, e_add, e_sub, e_mul, e_quo, e_rem, e_and, e_or, e_xor, e_shl, e_shr, e_eql, e_neq, e_lss, e_leq, e_gtr, e_geq, e_beq, e_bne, e_peq1, e_peq2, e_pne1, e_pne2, e_zeq1, e_zeq2, e_zne1, e_zne2, e_feq1, e_fne1, e_feq2, e_fne2, e_seq, e_sne, e_ta1, e_ta2, Nat.zero_add, Nat.add_zero, Bool.not_true, Bool.not_false]
    rw [show (decide (((21 : Nat) : Int) < 21)) = false from rfl]
    try simp only [e_fd, e_nck, e_pkt, e_pkf, e_gdtt, e_gdtf, e_gdft, e_gdff, e_ift, e_iff, e_not, e_ln, e_lnT, e_cp, e_cvi, e_ex20, e_ex21, e_ex30, e_ex31, e_ex32, e_add, e_sub, e_mul, e_quo, e_rem, e_and, e_or, e_xor, e_shl, e_shr, e_eql, e_neq, e_lss, e_leq, e_gtr, e_geq, e_beq, e_bne, e_peq1, e_peq2, e_pne1, e_pne2, e_zeq1, e_zeq2, e_zne1, e_zne2, e_feq1, e_fne1, e_feq2, e_fne2, e_seq, e_sne, e_ta1, e_ta2, Nat.zero_add, Nat.add_zero, Bool.not_true, Bool.not_false]
    unfold s16_p1
    refine park_ok fun w3 l3 hk3 hc3 => ?_
    refine open_nil fun w4 ev hk4 her => ?_
    try simp only [e_fd, e_nck, e_pkt, e_pkf, e_gdtt, e_gdtf, e_gdft, e_gdff, e_ift, e_iff, e_not, e_ln, e_lnT, e_cp, e_cvi, e_ex20, e_ex21, e_ex30, e_ex31, e_ex32, e_add, e_sub, e_mul, e_quo, e_rem, e_and, e_or, e_xor, e_shl, e_shr, e_eql, e_neq, e_lss, e_leq, e_gtr, e_geq, e_beq, e_bne, e_peq1, e_peq2, e_pne1, e_pne2, e_zeq1, e_zeq2, e_zne1, e_zne2, e_feq1, e_fne1, e_feq2, e_fne2, e_seq, e_sne, e_ta1, e_ta2, Nat.zero_add, Nat.add_zero, Bool.not_true, Bool.not_false]
    refine codeOf_ok her ?_
    simp only [n21, e_fd, e_nck, e_pkt, e_pkf, e_gdtt, e_gdtf, e_gdft, e_gdff, e_ift, e_iff, e_not, e_ln, e_lnT, e_cp, e_cvi, e_ex20, e_ex21, e_ex30, e_ex31, e_ex32, e_add, e_sub, e_mul, e_quo, e_rem, e_and, e_or, e_xor, e_shl, e_shr, e_eql, e_neq, e_lss, e_leq, e_gtr, e_geq, e_beq, e_bne, e_peq1, e_peq2, e_pne1, e_pne2, e_zeq1, e_zeq2, e_zne1, e_zne2, e_feq1, e_fne1, e_feq2, e_fne2, e_seq, e_sne, e_ta1, e_ta2, Nat.zero_add, Nat.add_zero, Bool.not_true, Bool.not_false]
    refine park_ok fun w5 l5 hk5 hc5 => ?_
    refine pj_ok fun w6 hk6 => ?_
    refine jnew_ok (M := Emp) sm72 (fun _ q => q.elim) fun w7 M7 j hx7 hk7 hj hjn => ?_
    refine open_new ((hc5.kp' hk6).kp' hk7) park_v hjn rfl rfl rfl rfl (fun b q => by have := q.2; have := hk6.size; omega) fun w8 M8 e m hx8 hk8 hmj hml how he => ?_
    try simp only [e_fd, e_nck, e_pkt, e_pkf, e_gdtt, e_gdtf, e_gdft, e_gdff, e_ift, e_iff, e_not, e_ln, e_lnT, e_cp, e_cvi, e_ex20, e_ex21, e_ex30, e_ex31, e_ex32, e_add, e_sub, e_mul, e_quo, e_rem, e_and, e_or, e_xor, e_shl, e_shr, e_eql, e_neq, e_lss, e_leq, e_gtr, e_geq, e_beq, e_bne, e_peq1, e_peq2, e_pne1, e_pne2, e_zeq1, e_zeq2, e_zne1, e_zne2, e_feq1, e_fne1, e_feq2, e_fne2, e_seq, e_sne, e_ta1, e_ta2, Nat.zero_add, Nat.add_zero, Bool.not_true, Bool.not_false]
    refine now_ok he ?_
    have n0 : ((sg0 park).now == 0) = true := rfl
    simp only [n0, e_fd, e_nck, e_pkt, e_pkf, e_gdtt, e_gdtf, e_gdft, e_gdff, e_ift, e_iff, e_not, e_ln, e_lnT, e_cp, e_cvi, e_ex20, e_ex21, e_ex30, e_ex31, e_ex32, e_add, e_sub, e_mul, e_quo, e_rem, e_and, e_or, e_xor, e_shl, e_shr, e_eql, e_neq, e_lss, e_leq, e_gtr, e_geq, e_beq, e_bne, e_peq1, e_peq2, e_pne1, e_pne2, e_zeq1, e_zeq2, e_zne1, e_zne2, e_feq1, e_fne1, e_feq2, e_fne2, e_seq, e_sne, e_ta1, e_ta2, Nat.zero_add, Nat.add_zero, Bool.not_true, Bool.not_false]
    refine audit_ok he park_cv park_imN rfl fun w9 hk9 => ?_
    have hci : chkImg park (img park (sg0 park)) = true := by kernel_rfl
    rw [hci]
    try simp only [e_fd, e_nck, e_pkt, e_pkf, e_gdtt, e_gdtf, e_gdft, e_gdff, e_ift, e_iff, e_not, e_ln, e_lnT, e_cp, e_cvi, e_ex20, e_ex21, e_ex30, e_ex31, e_ex32, e_add, e_sub, e_mul, e_quo, e_rem, e_and, e_or, e_xor, e_shl, e_shr, e_eql, e_neq, e_lss, e_leq, e_gtr, e_geq, e_beq, e_bne, e_peq1, e_peq2, e_pne1, e_pne2, e_zeq1, e_zeq2, e_zne1, e_zne2, e_feq1, e_fne1, e_feq2, e_fne2, e_seq, e_sne, e_ta1, e_ta2, Nat.zero_add, Nat.add_zero, Bool.not_true, Bool.not_false]
    have k6 := ((((hk1.trans hk2).trans hk3).trans hk4).trans hk5).trans hk6
    exact hK w9 (((k6.trans hk7).then hk8 fun k hk (q : k = j) => by have := k6.size; omega).trans hk9)
theorem config_walk (w : World) : Calls Tryz.prog 16 #[] w fun e w' => e = .returned (.bool true) ∧ Below w.heap.size w w' := by
  have h : cl Tryz.prog 16 #[] (fun v w' => v = .bool true ∧ Below w.heap.size w w') w := config_law fun w' hw => ⟨rfl, hw.below'⟩
  exact h.mono fun e w' ⟨v, he, hv, hb⟩ => ⟨by rw [he, hv], hb⟩
end
end Go.Proofs.Qxb6500896aGreat
