import Derived.Test.Qxb6500893aDoorA28
namespace Go.Proofs.Qxb6500893aDoor
open Go.Sh Go.RowKit
set_option linter.unusedVariables false
set_option linter.unusedSimpArgs false

section
variable {W w w' : World} {m m' : Wm} {s s' : Ws} {M M' : Md} {C : Nat → Prop} {b i l a : Nat} {K : Value → World → Prop} {id : Int} {sh : Shp} {T : Tb}
theorem malloc_ok (h : MAt w M) (hfl : ∀ p ∈ M.ps, p.fl < 18446744073709551615)
    (hN : ¬ (0 ≤ id ∧ id < M.ps.length) → K (I 6) w)
    (hE : ∀ i (hi : i < M.ps.length), id = (i : Int) → M.ps[i].us.length = M.ps[i].n → ∀ w', MAt w' { M with ps := M.ps.set i { M.ps[i] with fl := M.ps[i].fl + 1 } } → Kp (fun b => b = M.ps[i].pb) w w' → K (I 7) w')
    (hO : ∀ i (hi : i < M.ps.length), id = (i : Int) → M.ps[i].us.length ≠ M.ps[i].n → ∀ w', Kp (fun _ => False) w w' → K (I 0) w') : cl Tryd.prog 41 #[P M.mb 0, I id] K w := by
  apply c41
  unfold s41_p3
  refine has_ok h ?_
  by_cases hid : 0 ≤ id ∧ id < M.ps.length
  · rw [decide_eq_true hid]
    try simp only [e_fd, e_nck, e_pkt, e_pkf, e_gdtt, e_gdtf, e_gdft, e_gdff, e_ift, e_iff, e_not, e_ln, e_lnT, e_cp, e_cvi, e_ex20, e_ex21, e_ex30, e_ex31, e_ex32, e_add, e_sub, e_mul, e_quo, e_rem, e_and, e_or, e_xor, e_shl, e_shr, e_eql, e_neq, e_lss, e_leq, e_gtr, e_geq, e_beq, e_bne, e_peq1, e_peq2, e_pne1, e_pne2, e_zeq1, e_zeq2, e_zne1, e_zne2, e_feq1, e_fne1, e_feq2, e_fne2, e_seq, e_sne, e_ta1, e_ta2, Nat.zero_add, Nat.add_zero, Bool.not_true, Bool.not_false]
    obtain ⟨i, ei⟩ : ∃ i : Nat, id = (i : Int) := ⟨id.toNat, by omega⟩
    subst ei
    have hi : i < M.ps.length := by omega
    refine ld1_r h.row rfl ?_
    refine h.get hi ?_
    unfold s41_p2 s41_p2_d
    have h := h.kp' (w' := drw w) kp_drw
    have kd : Kp (fun _ => False) w (drw w) := kp_drw
    generalize drw w = w1 at h kd ⊢
    have hr := h.rw _ (List.getElem_mem hi)
    have hm := h.mp _ (List.getElem_mem hi)
    have hf := hfl _ (List.getElem_mem hi)
    try simp only [e_fd, e_nck, e_pkt, e_pkf, e_gdtt, e_gdtf, e_gdft, e_gdff, e_ift, e_iff, e_not, e_ln, e_lnT, e_cp, e_cvi, e_ex20, e_ex21, e_ex30, e_ex31, e_ex32, e_add, e_sub, e_mul, e_quo, e_rem, e_and, e_or, e_xor, e_shl, e_shr, e_eql, e_neq, e_lss, e_leq, e_gtr, e_geq, e_beq, e_bne, e_peq1, e_peq2, e_pne1, e_pne2, e_zeq1, e_zeq2, e_zne1, e_zne2, e_feq1, e_fne1, e_feq2, e_fne2, e_seq, e_sne, e_ta1, e_ta2, Nat.zero_add, Nat.add_zero, Bool.not_true, Bool.not_false]
    refine ld1_r hr rfl ?_
    refine ⟨I M.ps[i].us.length, fun w2 hb => len_mapT und58 (hm.below hb hm.lt) ⟨rfl, rfl⟩, ?_⟩
    try simp only [e_fd, e_nck, e_pkt, e_pkf, e_gdtt, e_gdtf, e_gdft, e_gdff, e_ift, e_iff, e_not, e_ln, e_lnT, e_cp, e_cvi, e_ex20, e_ex21, e_ex30, e_ex31, e_ex32, e_add, e_sub, e_mul, e_quo, e_rem, e_and, e_or, e_xor, e_shl, e_shr, e_eql, e_neq, e_lss, e_leq, e_gtr, e_geq, e_beq, e_bne, e_peq1, e_peq2, e_pne1, e_pne2, e_zeq1, e_zeq2, e_zne1, e_zne2, e_feq1, e_fne1, e_feq2, e_fne2, e_seq, e_sne, e_ta1, e_ta2, Nat.zero_add, Nat.add_zero, Bool.not_true, Bool.not_false]
    refine ld1_r hr rfl ?_
    try simp only [e_fd, e_nck, e_pkt, e_pkf, e_gdtt, e_gdtf, e_gdft, e_gdff, e_ift, e_iff, e_not, e_ln, e_lnT, e_cp, e_cvi, e_ex20, e_ex21, e_ex30, e_ex31, e_ex32, e_add, e_sub, e_mul, e_quo, e_rem, e_and, e_or, e_xor, e_shl, e_shr, e_eql, e_neq, e_lss, e_leq, e_gtr, e_geq, e_beq, e_bne, e_peq1, e_peq2, e_pne1, e_pne2, e_zeq1, e_zeq2, e_zne1, e_zne2, e_feq1, e_fne1, e_feq2, e_fne2, e_seq, e_sne, e_ta1, e_ta2, Nat.zero_add, Nat.add_zero, Bool.not_true, Bool.not_false]
    unfold s41_p1
    by_cases hl : M.ps[i].us.length = M.ps[i].n
    · have e : (((M.ps[i].us.length : Nat) : Int) == ((M.ps[i].n : Nat) : Int)) = true := by rw [hl]; exact beq_self_eq_true _
      simp only [e, e_fd, e_nck, e_pkt, e_pkf, e_gdtt, e_gdtf, e_gdft, e_gdff, e_ift, e_iff, e_not, e_ln, e_lnT, e_cp, e_cvi, e_ex20, e_ex21, e_ex30, e_ex31, e_ex32, e_add, e_sub, e_mul, e_quo, e_rem, e_and, e_or, e_xor, e_shl, e_shr, e_eql, e_neq, e_lss, e_leq, e_gtr, e_geq, e_beq, e_bne, e_peq1, e_peq2, e_pne1, e_pne2, e_zeq1, e_zeq2, e_zne1, e_zne2, e_feq1, e_fne1, e_feq2, e_fne2, e_seq, e_sne, e_ta1, e_ta2, Nat.zero_add, Nat.add_zero, Bool.not_true, Bool.not_false]
      refine ld1_r hr rfl ?_
      try simp only [e_fd, e_nck, e_pkt, e_pkf, e_gdtt, e_gdtf, e_gdft, e_gdff, e_ift, e_iff, e_not, e_ln, e_lnT, e_cp, e_cvi, e_ex20, e_ex21, e_ex30, e_ex31, e_ex32, e_add, e_sub, e_mul, e_quo, e_rem, e_and, e_or, e_xor, e_shl, e_shr, e_eql, e_neq, e_lss, e_leq, e_gtr, e_geq, e_beq, e_bne, e_peq1, e_peq2, e_pne1, e_pne2, e_zeq1, e_zeq2, e_zne1, e_zne2, e_feq1, e_fne1, e_feq2, e_fne2, e_seq, e_sne, e_ta1, e_ta2, Nat.zero_add, Nat.add_zero, Bool.not_true, Bool.not_false]
      have e1 : IntKind.u64.wrap (((M.ps[i].fl : Nat) : Int) + 1) = ((M.ps[i].fl + 1 : Nat) : Int) := by rw [show ((M.ps[i].fl : Nat) : Int) + 1 = ((M.ps[i].fl + 1 : Nat) : Int) by omega, w64 (by omega)]
      rw [e1]
      refine st1_r hr (show 4 < 5 by decide) rfl fun w2 r2 hk2 hz2 => ?_
      exact hE i hi rfl hl w2 (h.set hi (p' := { M.ps[i] with fl := M.ps[i].fl + 1 }) (hk2.mono (fun b _ q => .inl q)) rfl rfl r2 (hm.kp hk2 (fun (q : _ = _) => hm.not_row hr q.symm))) ((kd.mono (fun b _ q => q.elim)).trans hk2)
    · have e : (((M.ps[i].us.length : Nat) : Int) == ((M.ps[i].n : Nat) : Int)) = false := by rw [beq_eq_false_iff_ne]; omega
      simp only [e, e_fd, e_nck, e_pkt, e_pkf, e_gdtt, e_gdtf, e_gdft, e_gdff, e_ift, e_iff, e_not, e_ln, e_lnT, e_cp, e_cvi, e_ex20, e_ex21, e_ex30, e_ex31, e_ex32, e_add, e_sub, e_mul, e_quo, e_rem, e_and, e_or, e_xor, e_shl, e_shr, e_eql, e_neq, e_lss, e_leq, e_gtr, e_geq, e_beq, e_bne, e_peq1, e_peq2, e_pne1, e_pne2, e_zeq1, e_zeq2, e_zne1, e_zne2, e_feq1, e_fne1, e_feq2, e_fne2, e_seq, e_sne, e_ta1, e_ta2, Nat.zero_add, Nat.add_zero, Bool.not_true, Bool.not_false]
      exact hO i hi rfl hl w1 kd
  · rw [decide_eq_false hid]
    try simp only [e_fd, e_nck, e_pkt, e_pkf, e_gdtt, e_gdtf, e_gdft, e_gdff, e_ift, e_iff, e_not, e_ln, e_lnT, e_cp, e_cvi, e_ex20, e_ex21, e_ex30, e_ex31, e_ex32, e_add, e_sub, e_mul, e_quo, e_rem, e_and, e_or, e_xor, e_shl, e_shr, e_eql, e_neq, e_lss, e_leq, e_gtr, e_geq, e_beq, e_bne, e_peq1, e_peq2, e_pne1, e_pne2, e_zeq1, e_zeq2, e_zne1, e_zne2, e_feq1, e_fne1, e_feq2, e_fne2, e_seq, e_sne, e_ta1, e_ta2, Nat.zero_add, Nat.add_zero, Bool.not_true, Bool.not_false]
    exact hN hid

theorem mtake_ok (h : MAt w M) (hi : i < M.ps.length) (hl : l < M.ps[i].n) (hn : ((l : Nat) : Int) ∉ M.ps[i].us)
    (hK : ∀ w', MAt w' { M with ps := M.ps.set i { M.ps[i] with us := M.ps[i].us ++ [((l : Nat) : Int)], pk := if M.ps[i].pk < M.ps[i].us.length + 1 then M.ps[i].us.length + 1 else M.ps[i].pk } } → Kp (fun b => b = M.ps[i].pb ∨ b = M.ps[i].mp) w w' → K (.bool true) w') :
    cl Tryd.prog 42 #[P M.mb 0, I (i : Nat), I (l : Nat)] K w := by
  have hr := h.rw _ (List.getElem_mem hi)
  have hm := h.mp _ (List.getElem_mem hi)
  apply c42
  unfold s42_p2
  try simp only [e_fd, e_nck, e_pkt, e_pkf, e_gdtt, e_gdtf, e_gdft, e_gdff, e_ift, e_iff, e_not, e_ln, e_lnT, e_cp, e_cvi, e_ex20, e_ex21, e_ex30, e_ex31, e_ex32, e_add, e_sub, e_mul, e_quo, e_rem, e_and, e_or, e_xor, e_shl, e_shr, e_eql, e_neq, e_lss, e_leq, e_gtr, e_geq, e_beq, e_bne, e_peq1, e_peq2, e_pne1, e_pne2, e_zeq1, e_zeq2, e_zne1, e_zne2, e_feq1, e_fne1, e_feq2, e_fne2, e_seq, e_sne, e_ta1, e_ta2, Nat.zero_add, Nat.add_zero, Bool.not_true, Bool.not_false]
  refine ld1_r h.row rfl ?_
  refine h.get hi ?_
  have e0 : ¬ ((l : Nat) : Int) < 0 := by omega
  simp only [e0, decide_false, e_fd, e_nck, e_pkt, e_pkf, e_gdtt, e_gdtf, e_gdft, e_gdff, e_ift, e_iff, e_not, e_ln, e_lnT, e_cp, e_cvi, e_ex20, e_ex21, e_ex30, e_ex31, e_ex32, e_add, e_sub, e_mul, e_quo, e_rem, e_and, e_or, e_xor, e_shl, e_shr, e_eql, e_neq, e_lss, e_leq, e_gtr, e_geq, e_beq, e_bne, e_peq1, e_peq2, e_pne1, e_pne2, e_zeq1, e_zeq2, e_zne1, e_zne2, e_feq1, e_fne1, e_feq2, e_fne2, e_seq, e_sne, e_ta1, e_ta2, Nat.zero_add, Nat.add_zero, Bool.not_true, Bool.not_false]
  refine ld1_r hr rfl ?_
  have e1 : ¬ ((M.ps[i].n : Nat) : Int) ≤ ((l : Nat) : Int) := by omega
  simp only [e1, decide_false, e_fd, e_nck, e_pkt, e_pkf, e_gdtt, e_gdtf, e_gdft, e_gdff, e_ift, e_iff, e_not, e_ln, e_lnT, e_cp, e_cvi, e_ex20, e_ex21, e_ex30, e_ex31, e_ex32, e_add, e_sub, e_mul, e_quo, e_rem, e_and, e_or, e_xor, e_shl, e_shr, e_eql, e_neq, e_lss, e_leq, e_gtr, e_geq, e_beq, e_bne, e_peq1, e_peq2, e_pne1, e_pne2, e_zeq1, e_zeq2, e_zne1, e_zne2, e_feq1, e_fne1, e_feq2, e_fne2, e_seq, e_sne, e_ta1, e_ta2, Nat.zero_add, Nat.add_zero, Bool.not_true, Bool.not_false]
  refine ld1_r hr rfl ?_
  refine lk_mapT und58 und2 zero1 hm ?_
  rw [decide_eq_false hn]
  try simp only [e_fd, e_nck, e_pkt, e_pkf, e_gdtt, e_gdtf, e_gdft, e_gdff, e_ift, e_iff, e_not, e_ln, e_lnT, e_cp, e_cvi, e_ex20, e_ex21, e_ex30, e_ex31, e_ex32, e_add, e_sub, e_mul, e_quo, e_rem, e_and, e_or, e_xor, e_shl, e_shr, e_eql, e_neq, e_lss, e_leq, e_gtr, e_geq, e_beq, e_bne, e_peq1, e_peq2, e_pne1, e_pne2, e_zeq1, e_zeq2, e_zne1, e_zne2, e_feq1, e_fne1, e_feq2, e_fne2, e_seq, e_sne, e_ta1, e_ta2, Nat.zero_add, Nat.add_zero, Bool.not_true, Bool.not_false]
  refine ld1_r hr rfl ?_
  refine up_mapT und58 und2 hm hn fun w1 hm1 hk1 hz1 => ?_
  have hr1 := hk1.row hr (fun (q : _ = _) => hm.not_row hr q)
  try simp only [e_fd, e_nck, e_pkt, e_pkf, e_gdtt, e_gdtf, e_gdft, e_gdff, e_ift, e_iff, e_not, e_ln, e_lnT, e_cp, e_cvi, e_ex20, e_ex21, e_ex30, e_ex31, e_ex32, e_add, e_sub, e_mul, e_quo, e_rem, e_and, e_or, e_xor, e_shl, e_shr, e_eql, e_neq, e_lss, e_leq, e_gtr, e_geq, e_beq, e_bne, e_peq1, e_peq2, e_pne1, e_pne2, e_zeq1, e_zeq2, e_zne1, e_zne2, e_feq1, e_fne1, e_feq2, e_fne2, e_seq, e_sne, e_ta1, e_ta2, Nat.zero_add, Nat.add_zero, Bool.not_true, Bool.not_false]
  refine ld1_r hr1 rfl ?_
  refine len_mapT und58 hm1 ?_
  rw [List.length_append, List.length_singleton]
  try simp only [e_fd, e_nck, e_pkt, e_pkf, e_gdtt, e_gdtf, e_gdft, e_gdff, e_ift, e_iff, e_not, e_ln, e_lnT, e_cp, e_cvi, e_ex20, e_ex21, e_ex30, e_ex31, e_ex32, e_add, e_sub, e_mul, e_quo, e_rem, e_and, e_or, e_xor, e_shl, e_shr, e_eql, e_neq, e_lss, e_leq, e_gtr, e_geq, e_beq, e_bne, e_peq1, e_peq2, e_pne1, e_pne2, e_zeq1, e_zeq2, e_zne1, e_zne2, e_feq1, e_fne1, e_feq2, e_fne2, e_seq, e_sne, e_ta1, e_ta2, Nat.zero_add, Nat.add_zero, Bool.not_true, Bool.not_false]
  refine ld1_r hr1 rfl ?_
  try simp only [e_fd, e_nck, e_pkt, e_pkf, e_gdtt, e_gdtf, e_gdft, e_gdff, e_ift, e_iff, e_not, e_ln, e_lnT, e_cp, e_cvi, e_ex20, e_ex21, e_ex30, e_ex31, e_ex32, e_add, e_sub, e_mul, e_quo, e_rem, e_and, e_or, e_xor, e_shl, e_shr, e_eql, e_neq, e_lss, e_leq, e_gtr, e_geq, e_beq, e_bne, e_peq1, e_peq2, e_pne1, e_pne2, e_zeq1, e_zeq2, e_zne1, e_zne2, e_feq1, e_fne1, e_feq2, e_fne2, e_seq, e_sne, e_ta1, e_ta2, Nat.zero_add, Nat.add_zero, Bool.not_true, Bool.not_false]
  by_cases hp : M.ps[i].pk < M.ps[i].us.length + 1
  · have hp' : ((M.ps[i].pk : Nat) : Int) < ((M.ps[i].us.length + 1 : Nat) : Int) := by omega
    simp only [hp', decide_true, e_fd, e_nck, e_pkt, e_pkf, e_gdtt, e_gdtf, e_gdft, e_gdff, e_ift, e_iff, e_not, e_ln, e_lnT, e_cp, e_cvi, e_ex20, e_ex21, e_ex30, e_ex31, e_ex32, e_add, e_sub, e_mul, e_quo, e_rem, e_and, e_or, e_xor, e_shl, e_shr, e_eql, e_neq, e_lss, e_leq, e_gtr, e_geq, e_beq, e_bne, e_peq1, e_peq2, e_pne1, e_pne2, e_zeq1, e_zeq2, e_zne1, e_zne2, e_feq1, e_fne1, e_feq2, e_fne2, e_seq, e_sne, e_ta1, e_ta2, Nat.zero_add, Nat.add_zero, Bool.not_true, Bool.not_false]
    refine st1_r hr1 (show 3 < 5 by decide) rfl fun w2 r2 hk2 hz2 => ?_
    unfold s42_p1
    refine hK w2 ?_ ((hk1.mono (fun b _ q => .inr q)).trans (hk2.mono (fun b _ q => .inl q)))
    rw [if_pos hp]
    exact h.set hi (p' := { M.ps[i] with us := M.ps[i].us ++ [((l : Nat) : Int)], pk := M.ps[i].us.length + 1 }) ((hk1.mono (fun b _ q => .inr q)).trans (hk2.mono (fun b _ q => .inl q))) rfl rfl r2 (hm1.kp hk2 (fun (q : _ = _) => hm1.not_row hr1 q.symm))
  · have hp' : ¬ ((M.ps[i].pk : Nat) : Int) < ((M.ps[i].us.length + 1 : Nat) : Int) := by omega
    simp only [hp', decide_false, e_fd, e_nck, e_pkt, e_pkf, e_gdtt, e_gdtf, e_gdft, e_gdff, e_ift, e_iff, e_not, e_ln, e_lnT, e_cp, e_cvi, e_ex20, e_ex21, e_ex30, e_ex31, e_ex32, e_add, e_sub, e_mul, e_quo, e_rem, e_and, e_or, e_xor, e_shl, e_shr, e_eql, e_neq, e_lss, e_leq, e_gtr, e_geq, e_beq, e_bne, e_peq1, e_peq2, e_pne1, e_pne2, e_zeq1, e_zeq2, e_zne1, e_zne2, e_feq1, e_fne1, e_feq2, e_fne2, e_seq, e_sne, e_ta1, e_ta2, Nat.zero_add, Nat.add_zero, Bool.not_true, Bool.not_false]
    unfold s42_p1
    refine hK w1 ?_ (hk1.mono (fun b _ q => .inr q))
    rw [if_neg hp]
    exact h.set hi (p' := { M.ps[i] with us := M.ps[i].us ++ [((l : Nat) : Int)], pk := M.ps[i].pk }) (hk1.mono (fun b _ q => .inr q)) rfl rfl hr1 hm1

theorem mfree_no {off : Int} (h : MAt w M) (hn : ¬ (0 ≤ id ∧ id < M.ps.length)) (hK : K (I 6) w) : cl Tryd.prog 43 #[P M.mb 0, I id, I off] K w := by
  apply c43
  unfold s43_p7
  refine has_ok h ?_
  rw [decide_eq_false hn]
  try simp only [e_fd, e_nck, e_pkt, e_pkf, e_gdtt, e_gdtf, e_gdft, e_gdff, e_ift, e_iff, e_not, e_ln, e_lnT, e_cp, e_cvi, e_ex20, e_ex21, e_ex30, e_ex31, e_ex32, e_add, e_sub, e_mul, e_quo, e_rem, e_and, e_or, e_xor, e_shl, e_shr, e_eql, e_neq, e_lss, e_leq, e_gtr, e_geq, e_beq, e_bne, e_peq1, e_peq2, e_pne1, e_pne2, e_zeq1, e_zeq2, e_zne1, e_zne2, e_feq1, e_fne1, e_feq2, e_fne2, e_seq, e_sne, e_ta1, e_ta2, Nat.zero_add, Nat.add_zero, Bool.not_true, Bool.not_false]
  exact hK
theorem mfree_has (h : MAt w M) (hi : i < M.ps.length) (hok : sh.Ok) (hbw : M.ps[i].bw = sh.bw) (hn : M.ps[i].n = sh.n) (ha : a < 4294967296)
    (hE : (∀ j, j < sh.n → a = sh.bk j → ((j : Nat) : Int) ∉ M.ps[i].us) → ∀ w', Kp (fun _ => False) w w' → K (I (frC sh a)) w')
    (hO : ∀ j, j < sh.n → a = sh.bk j → ((j : Nat) : Int) ∈ M.ps[i].us → ∀ w', MAt w' { M with ps := M.ps.set i { M.ps[i] with us := M.ps[i].us.erase ((j : Nat) : Int) } } → Kp (fun b => b = M.ps[i].mp) w w' → K (I 0) w') :
    cl Tryd.prog 43 #[P M.mb 0, I (i : Nat), I ((a : Int) - (sh.fst : Int))] K w := by
  have o1 := hok.bw1
  have o2 := hok.bw2
  have o3 := hok.fin
  have o4 := hok.lim
  apply c43
  unfold s43_p7
  refine has_ok h ?_
  rw [decide_eq_true (show 0 ≤ ((i : Nat) : Int) ∧ ((i : Nat) : Int) < M.ps.length by omega)]
  try simp only [e_fd, e_nck, e_pkt, e_pkf, e_gdtt, e_gdtf, e_gdft, e_gdff, e_ift, e_iff, e_not, e_ln, e_lnT, e_cp, e_cvi, e_ex20, e_ex21, e_ex30, e_ex31, e_ex32, e_add, e_sub, e_mul, e_quo, e_rem, e_and, e_or, e_xor, e_shl, e_shr, e_eql, e_neq, e_lss, e_leq, e_gtr, e_geq, e_beq, e_bne, e_peq1, e_peq2, e_pne1, e_pne2, e_zeq1, e_zeq2, e_zne1, e_zne2, e_feq1, e_fne1, e_feq2, e_fne2, e_seq, e_sne, e_ta1, e_ta2, Nat.zero_add, Nat.add_zero, Bool.not_true, Bool.not_false]
  refine ld1_r h.row rfl ?_
  refine h.get hi ?_
  unfold s43_p6 s43_p6_d
  have h := h.kp' (w' := drw w) kp_drw
  have kd : Kp (fun _ => False) w (drw w) := kp_drw
  generalize drw w = w1 at h kd ⊢
  have hr := h.rw _ (List.getElem_mem hi)
  have hm := h.mp _ (List.getElem_mem hi)
  have hr' : Row w1 M.ps[i].pb 60 [I sh.bw, I sh.n, .map (some M.ps[i].mp), I M.ps[i].pk, U64 M.ps[i].fl] := by rw [← hbw, ← hn]; exact hr
  try simp only [e_fd, e_nck, e_pkt, e_pkf, e_gdtt, e_gdtf, e_gdft, e_gdff, e_ift, e_iff, e_not, e_ln, e_lnT, e_cp, e_cvi, e_ex20, e_ex21, e_ex30, e_ex31, e_ex32, e_add, e_sub, e_mul, e_quo, e_rem, e_and, e_or, e_xor, e_shl, e_shr, e_eql, e_neq, e_lss, e_leq, e_gtr, e_geq, e_beq, e_bne, e_peq1, e_peq2, e_pne1, e_pne2, e_zeq1, e_zeq2, e_zne1, e_zne2, e_feq1, e_fne1, e_feq2, e_fne2, e_seq, e_sne, e_ta1, e_ta2, Nat.zero_add, Nat.add_zero, Bool.not_true, Bool.not_false]
  by_cases h1 : a < sh.fst
  · have e : (a : Int) - (sh.fst : Int) < 0 := by omega
    simp only [e, decide_true, e_fd, e_nck, e_pkt, e_pkf, e_gdtt, e_gdtf, e_gdft, e_gdff, e_ift, e_iff, e_not, e_ln, e_lnT, e_cp, e_cvi, e_ex20, e_ex21, e_ex30, e_ex31, e_ex32, e_add, e_sub, e_mul, e_quo, e_rem, e_and, e_or, e_xor, e_shl, e_shr, e_eql, e_neq, e_lss, e_leq, e_gtr, e_geq, e_beq, e_bne, e_peq1, e_peq2, e_pne1, e_pne2, e_zeq1, e_zeq2, e_zne1, e_zne2, e_feq1, e_fne1, e_feq2, e_fne2, e_seq, e_sne, e_ta1, e_ta2, Nat.zero_add, Nat.add_zero, Bool.not_true, Bool.not_false]
    unfold s43_p5
    try simp only [e_fd, e_nck, e_pkt, e_pkf, e_gdtt, e_gdtf, e_gdft, e_gdff, e_ift, e_iff, e_not, e_ln, e_lnT, e_cp, e_cvi, e_ex20, e_ex21, e_ex30, e_ex31, e_ex32, e_add, e_sub, e_mul, e_quo, e_rem, e_and, e_or, e_xor, e_shl, e_shr, e_eql, e_neq, e_lss, e_leq, e_gtr, e_geq, e_beq, e_bne, e_peq1, e_peq2, e_pne1, e_pne2, e_zeq1, e_zeq2, e_zne1, e_zne2, e_feq1, e_fne1, e_feq2, e_fne2, e_seq, e_sne, e_ta1, e_ta2, Nat.zero_add, Nat.add_zero, Bool.not_true, Bool.not_false]
    have ef : frC sh a = 8 := by
      have e1 : idxC sh a = 8 := by unfold idxC; rw [if_pos (.inl h1)]
      unfold frC; rw [e1]; rfl
    rw [ef] at hE
    refine hE (fun j hj e => ?_) w1 kd
    have : sh.fst ≤ sh.bk j := bk_ge
    omega
  · obtain ⟨d, hd⟩ : ∃ d : Nat, a = sh.fst + d := ⟨a - sh.fst, by omega⟩
    have ed : (a : Int) - (sh.fst : Int) = ((d : Nat) : Int) := by omega
    rw [ed]
    have e : ¬ ((d : Nat) : Int) < 0 := by omega
    simp only [e, decide_false, e_fd, e_nck, e_pkt, e_pkf, e_gdtt, e_gdtf, e_gdft, e_gdff, e_ift, e_iff, e_not, e_ln, e_lnT, e_cp, e_cvi, e_ex20, e_ex21, e_ex30, e_ex31, e_ex32, e_add, e_sub, e_mul, e_quo, e_rem, e_and, e_or, e_xor, e_shl, e_shr, e_eql, e_neq, e_lss, e_leq, e_gtr, e_geq, e_beq, e_bne, e_peq1, e_peq2, e_pne1, e_pne2, e_zeq1, e_zeq2, e_zne1, e_zne2, e_feq1, e_fne1, e_feq2, e_fne2, e_seq, e_sne, e_ta1, e_ta2, Nat.zero_add, Nat.add_zero, Bool.not_true, Bool.not_false]
    refine ld1_r hr' rfl ?_
    try simp only [e_fd, e_nck, e_pkt, e_pkf, e_gdtt, e_gdtf, e_gdft, e_gdff, e_ift, e_iff, e_not, e_ln, e_lnT, e_cp, e_cvi, e_ex20, e_ex21, e_ex30, e_ex31, e_ex32, e_add, e_sub, e_mul, e_quo, e_rem, e_and, e_or, e_xor, e_shl, e_shr, e_eql, e_neq, e_lss, e_leq, e_gtr, e_geq, e_beq, e_bne, e_peq1, e_peq2, e_pne1, e_pne2, e_zeq1, e_zeq2, e_zne1, e_zne2, e_feq1, e_fne1, e_feq2, e_fne2, e_seq, e_sne, e_ta1, e_ta2, Nat.zero_add, Nat.add_zero, Bool.not_true, Bool.not_false]
    refine ld1_r hr' rfl ?_
    try simp only [e_fd, e_nck, e_pkt, e_pkf, e_gdtt, e_gdtf, e_gdft, e_gdff, e_ift, e_iff, e_not, e_ln, e_lnT, e_cp, e_cvi, e_ex20, e_ex21, e_ex30, e_ex31, e_ex32, e_add, e_sub, e_mul, e_quo, e_rem, e_and, e_or, e_xor, e_shl, e_shr, e_eql, e_neq, e_lss, e_leq, e_gtr, e_geq, e_beq, e_bne, e_peq1, e_peq2, e_pne1, e_pne2, e_zeq1, e_zeq2, e_zne1, e_zne2, e_feq1, e_fne1, e_feq2, e_fne2, e_seq, e_sne, e_ta1, e_ta2, Nat.zero_add, Nat.add_zero, Bool.not_true, Bool.not_false]
    rw [← Int.natCast_mul, wrap64_id (n := ((sh.n * sh.bw : Nat) : Int)) (by omega) (by omega)]
    by_cases h2 : sh.n * sh.bw ≤ d
    · have e2 : ((sh.n * sh.bw : Nat) : Int) ≤ ((d : Nat) : Int) := by omega
      simp only [e2, decide_true, e_fd, e_nck, e_pkt, e_pkf, e_gdtt, e_gdtf, e_gdft, e_gdff, e_ift, e_iff, e_not, e_ln, e_lnT, e_cp, e_cvi, e_ex20, e_ex21, e_ex30, e_ex31, e_ex32, e_add, e_sub, e_mul, e_quo, e_rem, e_and, e_or, e_xor, e_shl, e_shr, e_eql, e_neq, e_lss, e_leq, e_gtr, e_geq, e_beq, e_bne, e_peq1, e_peq2, e_pne1, e_pne2, e_zeq1, e_zeq2, e_zne1, e_zne2, e_feq1, e_fne1, e_feq2, e_fne2, e_seq, e_sne, e_ta1, e_ta2, Nat.zero_add, Nat.add_zero, Bool.not_true, Bool.not_false]
      unfold s43_p5
      try simp only [e_fd, e_nck, e_pkt, e_pkf, e_gdtt, e_gdtf, e_gdft, e_gdff, e_ift, e_iff, e_not, e_ln, e_lnT, e_cp, e_cvi, e_ex20, e_ex21, e_ex30, e_ex31, e_ex32, e_add, e_sub, e_mul, e_quo, e_rem, e_and, e_or, e_xor, e_shl, e_shr, e_eql, e_neq, e_lss, e_leq, e_gtr, e_geq, e_beq, e_bne, e_peq1, e_peq2, e_pne1, e_pne2, e_zeq1, e_zeq2, e_zne1, e_zne2, e_feq1, e_fne1, e_feq2, e_fne2, e_seq, e_sne, e_ta1, e_ta2, Nat.zero_add, Nat.add_zero, Bool.not_true, Bool.not_false]
      have ef : frC sh a = 8 := by
        have e1 : idxC sh a = 8 := by unfold idxC; rw [if_pos (.inr (by omega))]
        unfold frC; rw [e1]; rfl
      rw [ef] at hE
      refine hE (fun j hj e => ?_) w1 kd
      have := bk_le sh hok hj
      omega
    · have e2 : ¬ ((sh.n * sh.bw : Nat) : Int) ≤ ((d : Nat) : Int) := by omega
      simp only [e2, decide_false, e_fd, e_nck, e_pkt, e_pkf, e_gdtt, e_gdtf, e_gdft, e_gdff, e_ift, e_iff, e_not, e_ln, e_lnT, e_cp, e_cvi, e_ex20, e_ex21, e_ex30, e_ex31, e_ex32, e_add, e_sub, e_mul, e_quo, e_rem, e_and, e_or, e_xor, e_shl, e_shr, e_eql, e_neq, e_lss, e_leq, e_gtr, e_geq, e_beq, e_bne, e_peq1, e_peq2, e_pne1, e_pne2, e_zeq1, e_zeq2, e_zne1, e_zne2, e_feq1, e_fne1, e_feq2, e_fne2, e_seq, e_sne, e_ta1, e_ta2, Nat.zero_add, Nat.add_zero, Bool.not_true, Bool.not_false]
      unfold s43_p5
      try simp only [e_fd, e_nck, e_pkt, e_pkf, e_gdtt, e_gdtf, e_gdft, e_gdff, e_ift, e_iff, e_not, e_ln, e_lnT, e_cp, e_cvi, e_ex20, e_ex21, e_ex30, e_ex31, e_ex32, e_add, e_sub, e_mul, e_quo, e_rem, e_and, e_or, e_xor, e_shl, e_shr, e_eql, e_neq, e_lss, e_leq, e_gtr, e_geq, e_beq, e_bne, e_peq1, e_peq2, e_pne1, e_pne2, e_zeq1, e_zeq2, e_zne1, e_zne2, e_feq1, e_fne1, e_feq2, e_fne2, e_seq, e_sne, e_ta1, e_ta2, Nat.zero_add, Nat.add_zero, Bool.not_true, Bool.not_false]
      refine ld1_r hr' rfl ?_
      try simp only [e_fd, e_nck, e_pkt, e_pkf, e_gdtt, e_gdtf, e_gdft, e_gdff, e_ift, e_iff, e_not, e_ln, e_lnT, e_cp, e_cvi, e_ex20, e_ex21, e_ex30, e_ex31, e_ex32, e_add, e_sub, e_mul, e_quo, e_rem, e_and, e_or, e_xor, e_shl, e_shr, e_eql, e_neq, e_lss, e_leq, e_gtr, e_geq, e_beq, e_bne, e_peq1, e_peq2, e_pne1, e_pne2, e_zeq1, e_zeq2, e_zne1, e_zne2, e_feq1, e_fne1, e_feq2, e_fne2, e_seq, e_sne, e_ta1, e_ta2, Nat.zero_add, Nat.add_zero, Bool.not_true, Bool.not_false]
      refine ⟨by omega, ?_⟩
      have em : ((d : Nat) : Int).tmod ((sh.bw : Nat) : Int) = ((d % sh.bw : Nat) : Int) := by
        rw [Int.tmod_eq_emod_of_nonneg (by omega)]; omega
      rw [em]
      have ei : idxC sh a = if d % sh.bw ≠ 0 then 9 else 0 := by
        unfold idxC; rw [if_neg (by omega), show a - sh.fst = d by omega]
      by_cases h3 : d % sh.bw = 0
      · have e3 : (((d % sh.bw : Nat) : Int) != 0) = false := by rw [h3]; rfl
        simp only [e3, e_fd, e_nck, e_pkt, e_pkf, e_gdtt, e_gdtf, e_gdft, e_gdff, e_ift, e_iff, e_not, e_ln, e_lnT, e_cp, e_cvi, e_ex20, e_ex21, e_ex30, e_ex31, e_ex32, e_add, e_sub, e_mul, e_quo, e_rem, e_and, e_or, e_xor, e_shl, e_shr, e_eql, e_neq, e_lss, e_leq, e_gtr, e_geq, e_beq, e_bne, e_peq1, e_peq2, e_pne1, e_pne2, e_zeq1, e_zeq2, e_zne1, e_zne2, e_feq1, e_fne1, e_feq2, e_fne2, e_seq, e_sne, e_ta1, e_ta2, Nat.zero_add, Nat.add_zero, Bool.not_true, Bool.not_false]
        rw [if_neg (by omega)] at ei
        have hdj : d / sh.bw < sh.n := (Nat.div_lt_iff_lt_mul (by omega)).2 (by omega)
        have hdm : d / sh.bw * sh.bw = d := by
          have := Nat.div_add_mod d sh.bw
          rw [h3, Nat.add_zero, Nat.mul_comm] at this; exact this
        have hab : a = sh.bk (d / sh.bw) := by unfold Shp.bk; omega
        have eq : IntKind.i64.wrap (((d : Nat) : Int).tdiv ((sh.bw : Nat) : Int)) = ((d / sh.bw : Nat) : Int) := by
          rw [Int.tdiv_eq_ediv_of_nonneg (by omega), ← Int.natCast_ediv]
          have o5 := hok.n2
          clear hdm hab
          generalize d / sh.bw = e at hdj ⊢
          exact wrap64_id (by omega) (by omega)
        unfold s43_p4 s43_p4_d
        have h := h.kp' (w' := drw w1) kp_drw
        have kd2 : Kp (fun _ => False) w (drw w1) := kd.trans kp_drw
        have hr' := hr'.drw
        have hr := hr.drw
        have hm : MapT (drw w1) M.ps[i].mp .i64 M.ps[i].us := hm.kp (kp_drw (S := fun _ => False)) (fun q => q)
        generalize drw w1 = w2 at h kd2 hr' hr hm ⊢
        try simp only [e_fd, e_nck, e_pkt, e_pkf, e_gdtt, e_gdtf, e_gdft, e_gdff, e_ift, e_iff, e_not, e_ln, e_lnT, e_cp, e_cvi, e_ex20, e_ex21, e_ex30, e_ex31, e_ex32, e_add, e_sub, e_mul, e_quo, e_rem, e_and, e_or, e_xor, e_shl, e_shr, e_eql, e_neq, e_lss, e_leq, e_gtr, e_geq, e_beq, e_bne, e_peq1, e_peq2, e_pne1, e_pne2, e_zeq1, e_zeq2, e_zne1, e_zne2, e_feq1, e_fne1, e_feq2, e_fne2, e_seq, e_sne, e_ta1, e_ta2, Nat.zero_add, Nat.add_zero, Bool.not_true, Bool.not_false]
        refine ld1_r hr' rfl ?_
        try simp only [e_fd, e_nck, e_pkt, e_pkf, e_gdtt, e_gdtf, e_gdft, e_gdff, e_ift, e_iff, e_not, e_ln, e_lnT, e_cp, e_cvi, e_ex20, e_ex21, e_ex30, e_ex31, e_ex32, e_add, e_sub, e_mul, e_quo, e_rem, e_and, e_or, e_xor, e_shl, e_shr, e_eql, e_neq, e_lss, e_leq, e_gtr, e_geq, e_beq, e_bne, e_peq1, e_peq2, e_pne1, e_pne2, e_zeq1, e_zeq2, e_zne1, e_zne2, e_feq1, e_fne1, e_feq2, e_fne2, e_seq, e_sne, e_ta1, e_ta2, Nat.zero_add, Nat.add_zero, Bool.not_true, Bool.not_false]
        refine ld1_r hr' rfl ?_
        try simp only [e_fd, e_nck, e_pkt, e_pkf, e_gdtt, e_gdtf, e_gdft, e_gdff, e_ift, e_iff, e_not, e_ln, e_lnT, e_cp, e_cvi, e_ex20, e_ex21, e_ex30, e_ex31, e_ex32, e_add, e_sub, e_mul, e_quo, e_rem, e_and, e_or, e_xor, e_shl, e_shr, e_eql, e_neq, e_lss, e_leq, e_gtr, e_geq, e_beq, e_bne, e_peq1, e_peq2, e_pne1, e_pne2, e_zeq1, e_zeq2, e_zne1, e_zne2, e_feq1, e_fne1, e_feq2, e_fne2, e_seq, e_sne, e_ta1, e_ta2, Nat.zero_add, Nat.add_zero, Bool.not_true, Bool.not_false]
        refine ⟨by omega, ?_⟩
        rw [eq]
        refine ⟨.bool (decide (((d / sh.bw : Nat) : Int) ∈ M.ps[i].us)), fun w3 hb => lk_mapT und58 und2 zero1 (hm.below hb hm.lt) ⟨rfl, rfl⟩, ?_⟩
        by_cases hu : ((d / sh.bw : Nat) : Int) ∈ M.ps[i].us
        · rw [decide_eq_true hu]
          try simp only [e_fd, e_nck, e_pkt, e_pkf, e_gdtt, e_gdtf, e_gdft, e_gdff, e_ift, e_iff, e_not, e_ln, e_lnT, e_cp, e_cvi, e_ex20, e_ex21, e_ex30, e_ex31, e_ex32, e_add, e_sub, e_mul, e_quo, e_rem, e_and, e_or, e_xor, e_shl, e_shr, e_eql, e_neq, e_lss, e_leq, e_gtr, e_geq, e_beq, e_bne, e_peq1, e_peq2, e_pne1, e_pne2, e_zeq1, e_zeq2, e_zne1, e_zne2, e_feq1, e_fne1, e_feq2, e_fne2, e_seq, e_sne, e_ta1, e_ta2, Nat.zero_add, Nat.add_zero, Bool.not_true, Bool.not_false]
          unfold s43_p3
          try simp only [e_fd, e_nck, e_pkt, e_pkf, e_gdtt, e_gdtf, e_gdft, e_gdff, e_ift, e_iff, e_not, e_ln, e_lnT, e_cp, e_cvi, e_ex20, e_ex21, e_ex30, e_ex31, e_ex32, e_add, e_sub, e_mul, e_quo, e_rem, e_and, e_or, e_xor, e_shl, e_shr, e_eql, e_neq, e_lss, e_leq, e_gtr, e_geq, e_beq, e_bne, e_peq1, e_peq2, e_pne1, e_pne2, e_zeq1, e_zeq2, e_zne1, e_zne2, e_feq1, e_fne1, e_feq2, e_fne2, e_seq, e_sne, e_ta1, e_ta2, Nat.zero_add, Nat.add_zero, Bool.not_true, Bool.not_false]
          unfold s43_p2 s43_p2_d
          have h := h.kp' (w' := drw w2) kp_drw
          have kd3 : Kp (fun _ => False) w (drw w2) := kd2.trans kp_drw
          have hr' := hr'.drw
          have hr := hr.drw
          have hm : MapT (drw w2) M.ps[i].mp .i64 M.ps[i].us := hm.kp (kp_drw (S := fun _ => False)) (fun q => q)
          generalize drw w2 = w3 at h kd3 hr' hr hm ⊢
          try simp only [e_fd, e_nck, e_pkt, e_pkf, e_gdtt, e_gdtf, e_gdft, e_gdff, e_ift, e_iff, e_not, e_ln, e_lnT, e_cp, e_cvi, e_ex20, e_ex21, e_ex30, e_ex31, e_ex32, e_add, e_sub, e_mul, e_quo, e_rem, e_and, e_or, e_xor, e_shl, e_shr, e_eql, e_neq, e_lss, e_leq, e_gtr, e_geq, e_beq, e_bne, e_peq1, e_peq2, e_pne1, e_pne2, e_zeq1, e_zeq2, e_zne1, e_zne2, e_feq1, e_fne1, e_feq2, e_fne2, e_seq, e_sne, e_ta1, e_ta2, Nat.zero_add, Nat.add_zero, Bool.not_true, Bool.not_false]
          refine ld1_r hr' rfl ?_
          try simp only [e_fd, e_nck, e_pkt, e_pkf, e_gdtt, e_gdtf, e_gdft, e_gdff, e_ift, e_iff, e_not, e_ln, e_lnT, e_cp, e_cvi, e_ex20, e_ex21, e_ex30, e_ex31, e_ex32, e_add, e_sub, e_mul, e_quo, e_rem, e_and, e_or, e_xor, e_shl, e_shr, e_eql, e_neq, e_lss, e_leq, e_gtr, e_geq, e_beq, e_bne, e_peq1, e_peq2, e_pne1, e_pne2, e_zeq1, e_zeq2, e_zne1, e_zne2, e_feq1, e_fne1, e_feq2, e_fne2, e_seq, e_sne, e_ta1, e_ta2, Nat.zero_add, Nat.add_zero, Bool.not_true, Bool.not_false]
          refine ld1_r hr' rfl ?_
          try simp only [e_fd, e_nck, e_pkt, e_pkf, e_gdtt, e_gdtf, e_gdft, e_gdff, e_ift, e_iff, e_not, e_ln, e_lnT, e_cp, e_cvi, e_ex20, e_ex21, e_ex30, e_ex31, e_ex32, e_add, e_sub, e_mul, e_quo, e_rem, e_and, e_or, e_xor, e_shl, e_shr, e_eql, e_neq, e_lss, e_leq, e_gtr, e_geq, e_beq, e_bne, e_peq1, e_peq2, e_pne1, e_pne2, e_zeq1, e_zeq2, e_zne1, e_zne2, e_feq1, e_fne1, e_feq2, e_fne2, e_seq, e_sne, e_ta1, e_ta2, Nat.zero_add, Nat.add_zero, Bool.not_true, Bool.not_false]
          refine ⟨by omega, ?_⟩
          rw [eq]
          refine del_mapT und58 und2 hm hu fun w4 hm4 hk4 hz4 => ?_
          unfold s43_p1
          exact hO _ hdj hab hu w4 (h.set hi (p' := { M.ps[i] with us := M.ps[i].us.erase ((d / sh.bw : Nat) : Int) }) (hk4.mono (fun b _ q => .inr q)) rfl rfl (hk4.row hr (fun (q : _ = _) => hm.not_row hr q)) hm4) ((kd3.mono (fun b _ q => q.elim)).trans hk4)
        · rw [decide_eq_false hu]
          try simp only [e_fd, e_nck, e_pkt, e_pkf, e_gdtt, e_gdtf, e_gdft, e_gdff, e_ift, e_iff, e_not, e_ln, e_lnT, e_cp, e_cvi, e_ex20, e_ex21, e_ex30, e_ex31, e_ex32, e_add, e_sub, e_mul, e_quo, e_rem, e_and, e_or, e_xor, e_shl, e_shr, e_eql, e_neq, e_lss, e_leq, e_gtr, e_geq, e_beq, e_bne, e_peq1, e_peq2, e_pne1, e_pne2, e_zeq1, e_zeq2, e_zne1, e_zne2, e_feq1, e_fne1, e_feq2, e_fne2, e_seq, e_sne, e_ta1, e_ta2, Nat.zero_add, Nat.add_zero, Bool.not_true, Bool.not_false]
          unfold s43_p3
          try simp only [e_fd, e_nck, e_pkt, e_pkf, e_gdtt, e_gdtf, e_gdft, e_gdff, e_ift, e_iff, e_not, e_ln, e_lnT, e_cp, e_cvi, e_ex20, e_ex21, e_ex30, e_ex31, e_ex32, e_add, e_sub, e_mul, e_quo, e_rem, e_and, e_or, e_xor, e_shl, e_shr, e_eql, e_neq, e_lss, e_leq, e_gtr, e_geq, e_beq, e_bne, e_peq1, e_peq2, e_pne1, e_pne2, e_zeq1, e_zeq2, e_zne1, e_zne2, e_feq1, e_fne1, e_feq2, e_fne2, e_seq, e_sne, e_ta1, e_ta2, Nat.zero_add, Nat.add_zero, Bool.not_true, Bool.not_false]
          have ef : frC sh a = 10 := by unfold frC; rw [ei]; rfl
          rw [ef] at hE
          refine hE (fun j hj e => ?_) w2 kd2
          have hj2 : j = d / sh.bw := bk_inj hok (t := 0) (u := 0) (by omega) (by omega) (by omega)
          rw [hj2]; exact hu
      · have e3 : (((d % sh.bw : Nat) : Int) != 0) = true := by rw [bne_iff_ne]; omega
        simp only [e3, e_fd, e_nck, e_pkt, e_pkf, e_gdtt, e_gdtf, e_gdft, e_gdff, e_ift, e_iff, e_not, e_ln, e_lnT, e_cp, e_cvi, e_ex20, e_ex21, e_ex30, e_ex31, e_ex32, e_add, e_sub, e_mul, e_quo, e_rem, e_and, e_or, e_xor, e_shl, e_shr, e_eql, e_neq, e_lss, e_leq, e_gtr, e_geq, e_beq, e_bne, e_peq1, e_peq2, e_pne1, e_pne2, e_zeq1, e_zeq2, e_zne1, e_zne2, e_feq1, e_fne1, e_feq2, e_fne2, e_seq, e_sne, e_ta1, e_ta2, Nat.zero_add, Nat.add_zero, Bool.not_true, Bool.not_false]
        rw [if_pos h3] at ei
        have ef : frC sh a = 9 := by unfold frC; rw [ei]; rfl
        rw [ef] at hE
        refine hE (fun j hj e => ?_) w1 kd
        have : d = j * sh.bw := by unfold Shp.bk at e; omega
        rw [this, Nat.mul_mod_left] at h3
        exact absurd rfl h3

theorem mstats_no (h : MAt w M) (hn : ¬ (0 ≤ id ∧ id < M.ps.length)) (hK : ∀ w', Kp (fun _ => False) w w' → K (.tuple #[.agg (stV q0).toArray, I 6]) w') : cl Tryd.prog 44 #[P M.mb 0, I id] K w := by
  apply c44
  unfold s44_p3
  refine nw_r fun w1 r1 hk1 hz1 => ?_
  refine has_ok (h.kp' hk1) ?_
  rw [decide_eq_false hn]
  try simp only [e_fd, e_nck, e_pkt, e_pkf, e_gdtt, e_gdtf, e_gdft, e_gdff, e_ift, e_iff, e_not, e_ln, e_lnT, e_cp, e_cvi, e_ex20, e_ex21, e_ex30, e_ex31, e_ex32, e_add, e_sub, e_mul, e_quo, e_rem, e_and, e_or, e_xor, e_shl, e_shr, e_eql, e_neq, e_lss, e_leq, e_gtr, e_geq, e_beq, e_bne, e_peq1, e_peq2, e_pne1, e_pne2, e_zeq1, e_zeq2, e_zne1, e_zne2, e_feq1, e_fne1, e_feq2, e_fne2, e_seq, e_sne, e_ta1, e_ta2, Nat.zero_add, Nat.add_zero, Bool.not_true, Bool.not_false]
  refine bdq_r (l := stV q0) rfl ?_
  refine stn_r (cs := stV q0) r1 rfl (show 0 + 4 ≤ 4 by decide) rfl fun w2 r2 hk2 hz2 => ?_
  refine ldn_r r2 (show 0 + 4 ≤ _ by simp [stV]) ?_
  exact hK w2 (hk1.then hk2 (fun b hb (q : b = _) => by omega))
theorem mstats_has (h : MAt w M) (hi : i < M.ps.length) (hu : M.ps[i].us.length ≤ M.ps[i].n) (hn : M.ps[i].n ≤ 65536) (hp : M.ps[i].pk ≤ M.ps[i].n)
    (hK : ∀ w', Kp (fun _ => False) w w' → K (.tuple #[.agg (stV (M.ps[i].us.length, M.ps[i].n - M.ps[i].us.length, M.ps[i].pk, M.ps[i].fl)).toArray, I 0]) w') : cl Tryd.prog 44 #[P M.mb 0, I (i : Nat)] K w := by
  apply c44
  unfold s44_p3
  refine nw_r fun w1 r1 hk1 hz1 => ?_
  have h1 := h.kp' hk1
  refine has_ok h1 ?_
  rw [decide_eq_true (show 0 ≤ ((i : Nat) : Int) ∧ ((i : Nat) : Int) < M.ps.length by omega)]
  try simp only [e_fd, e_nck, e_pkt, e_pkf, e_gdtt, e_gdtf, e_gdft, e_gdff, e_ift, e_iff, e_not, e_ln, e_lnT, e_cp, e_cvi, e_ex20, e_ex21, e_ex30, e_ex31, e_ex32, e_add, e_sub, e_mul, e_quo, e_rem, e_and, e_or, e_xor, e_shl, e_shr, e_eql, e_neq, e_lss, e_leq, e_gtr, e_geq, e_beq, e_bne, e_peq1, e_peq2, e_pne1, e_pne2, e_zeq1, e_zeq2, e_zne1, e_zne2, e_feq1, e_fne1, e_feq2, e_fne2, e_seq, e_sne, e_ta1, e_ta2, Nat.zero_add, Nat.add_zero, Bool.not_true, Bool.not_false]
  refine ld1_r h1.row rfl ?_
  refine h1.get hi ?_
  have hr := h1.rw _ (List.getElem_mem hi)
  have hm := h1.mp _ (List.getElem_mem hi)
  try simp only [e_fd, e_nck, e_pkt, e_pkf, e_gdtt, e_gdtf, e_gdft, e_gdff, e_ift, e_iff, e_not, e_ln, e_lnT, e_cp, e_cvi, e_ex20, e_ex21, e_ex30, e_ex31, e_ex32, e_add, e_sub, e_mul, e_quo, e_rem, e_and, e_or, e_xor, e_shl, e_shr, e_eql, e_neq, e_lss, e_leq, e_gtr, e_geq, e_beq, e_bne, e_peq1, e_peq2, e_pne1, e_pne2, e_zeq1, e_zeq2, e_zne1, e_zne2, e_feq1, e_fne1, e_feq2, e_fne2, e_seq, e_sne, e_ta1, e_ta2, Nat.zero_add, Nat.add_zero, Bool.not_true, Bool.not_false]
  refine ld1_r hr rfl ?_
  refine len_mapT und58 hm ?_
  unfold s44_p2 s44_p2_d
  have kd : Kp (fun _ => False) w1 (drw w1) := kp_drw
  have hr := hr.drw
  have r1 := r1.drw
  generalize drw w1 = w2 at kd hr r1 ⊢
  try simp only [e_fd, e_nck, e_pkt, e_pkf, e_gdtt, e_gdtf, e_gdft, e_gdff, e_ift, e_iff, e_not, e_ln, e_lnT, e_cp, e_cvi, e_ex20, e_ex21, e_ex30, e_ex31, e_ex32, e_add, e_sub, e_mul, e_quo, e_rem, e_and, e_or, e_xor, e_shl, e_shr, e_eql, e_neq, e_lss, e_leq, e_gtr, e_geq, e_beq, e_bne, e_peq1, e_peq2, e_pne1, e_pne2, e_zeq1, e_zeq2, e_zne1, e_zne2, e_feq1, e_fne1, e_feq2, e_fne2, e_seq, e_sne, e_ta1, e_ta2, Nat.zero_add, Nat.add_zero, Bool.not_true, Bool.not_false]
  refine ld1_r hr rfl ?_
  try simp only [e_fd, e_nck, e_pkt, e_pkf, e_gdtt, e_gdtf, e_gdft, e_gdff, e_ift, e_iff, e_not, e_ln, e_lnT, e_cp, e_cvi, e_ex20, e_ex21, e_ex30, e_ex31, e_ex32, e_add, e_sub, e_mul, e_quo, e_rem, e_and, e_or, e_xor, e_shl, e_shr, e_eql, e_neq, e_lss, e_leq, e_gtr, e_geq, e_beq, e_bne, e_peq1, e_peq2, e_pne1, e_pne2, e_zeq1, e_zeq2, e_zne1, e_zne2, e_feq1, e_fne1, e_feq2, e_fne2, e_seq, e_sne, e_ta1, e_ta2, Nat.zero_add, Nat.add_zero, Bool.not_true, Bool.not_false]
  refine ld1_r hr rfl ?_
  try simp only [e_fd, e_nck, e_pkt, e_pkf, e_gdtt, e_gdtf, e_gdft, e_gdff, e_ift, e_iff, e_not, e_ln, e_lnT, e_cp, e_cvi, e_ex20, e_ex21, e_ex30, e_ex31, e_ex32, e_add, e_sub, e_mul, e_quo, e_rem, e_and, e_or, e_xor, e_shl, e_shr, e_eql, e_neq, e_lss, e_leq, e_gtr, e_geq, e_beq, e_bne, e_peq1, e_peq2, e_pne1, e_pne2, e_zeq1, e_zeq2, e_zne1, e_zne2, e_feq1, e_fne1, e_feq2, e_fne2, e_seq, e_sne, e_ta1, e_ta2, Nat.zero_add, Nat.add_zero, Bool.not_true, Bool.not_false]
  refine ld1_r hr rfl ?_
  have e1 : ((M.ps[i].n : Nat) : Int) - ((M.ps[i].us.length : Nat) : Int) = ((M.ps[i].n - M.ps[i].us.length : Nat) : Int) := by omega
  rw [e1, wrap64_id (n := ((M.ps[i].n - M.ps[i].us.length : Nat) : Int)) (by omega) (by omega), w32 (show M.ps[i].us.length < 4294967296 by omega), w32 (show M.ps[i].n - M.ps[i].us.length < 4294967296 by omega), w32 (show M.ps[i].pk < 4294967296 by omega)]
  refine bdq_r (l := stV (M.ps[i].us.length, M.ps[i].n - M.ps[i].us.length, M.ps[i].pk, M.ps[i].fl)) rfl ?_
  refine stn_r (cs := stV (M.ps[i].us.length, M.ps[i].n - M.ps[i].us.length, M.ps[i].pk, M.ps[i].fl)) r1 rfl (show 0 + 4 ≤ 4 by decide) rfl fun w3 r3 hk3 hz3 => ?_
  unfold s44_p1
  refine ldn_r r3 (show 0 + 4 ≤ _ by simp [stV]) ?_
  exact hK w3 ((hk1.trans kd).then hk3 (fun b hb (q : b = _) => by omega))
end
end Go.Proofs.Qxb6500893aDoor
