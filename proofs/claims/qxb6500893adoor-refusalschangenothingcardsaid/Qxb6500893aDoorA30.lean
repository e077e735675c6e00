import Derived.Test.Qxb6500893aDoorA29
namespace Go.Proofs.Qxb6500893aDoor
open Go.Sh Go.RowKit
set_option linter.unusedVariables false
set_option linter.unusedSimpArgs false

section
variable {W w w' : World} {m m' : Wm} {s s' : Ws} {M M' : Md} {C : Nat → Prop} {b i l a : Nat} {K : Value → World → Prop} {id : Int} {sh : Shp} {T : Tb}
theorem mcreate_ok {x y : Int} (h : MAt w M) (ok : T.Ok) (hr : M.room + T.next = T.lim) (hl : M.ps.length = T.ps.length)
    (hE : crC T x y ≠ 0 → ∀ w', Kp (fun _ => False) w w' → K (.tuple #[I (-1), I (crC T x y)]) w')
    (hO : crC T x y = 0 → ∀ w' M' pb mp, MAt w' M' → M'.mb = M.mb → M'.room + (crSh T x.toNat y.toNat).fin = T.lim → M'.ps = M.ps ++ [⟨x.toNat, y.toNat, [], 0, 0, pb, mp⟩] → (∀ b, OwnM M' b → OwnM M b ∨ w.heap.size ≤ b) → Kp (OwnM M) w w' → K (.tuple #[I (M.ps.length : Nat), I 0]) w') :
    cl Tryd.prog 40 #[P M.mb 0, I x, I y] K w := by
  have t1 := ok.top
  have t2 := ok.n1
  have t3 := ok.len
  have bad3 : (x < 1 ∨ 4096 < x ∨ y < 1 ∨ 65536 < y) → crC T x y = 3 := fun q => by unfold crC; rw [if_pos q]
  apply c40
  unfold s40_p2
  try simp only [e_fd, e_nck, e_pkt, e_pkf, e_gdtt, e_gdtf, e_gdft, e_gdff, e_ift, e_iff, e_not, e_ln, e_lnT, e_cp, e_cvi, e_ex20, e_ex21, e_ex30, e_ex31, e_ex32, e_add, e_sub, e_mul, e_quo, e_rem, e_and, e_or, e_xor, e_shl, e_shr, e_eql, e_neq, e_lss, e_leq, e_gtr, e_geq, e_beq, e_bne, e_peq1, e_peq2, e_pne1, e_pne2, e_zeq1, e_zeq2, e_zne1, e_zne2, e_feq1, e_fne1, e_feq2, e_fne2, e_seq, e_sne, e_ta1, e_ta2, Nat.zero_add, Nat.add_zero, Bool.not_true, Bool.not_false]
  by_cases h1 : x < 1
  · rw [bad3 (.inl h1)] at hE
    simp only [h1, decide_true, e_fd, e_nck, e_pkt, e_pkf, e_gdtt, e_gdtf, e_gdft, e_gdff, e_ift, e_iff, e_not, e_ln, e_lnT, e_cp, e_cvi, e_ex20, e_ex21, e_ex30, e_ex31, e_ex32, e_add, e_sub, e_mul, e_quo, e_rem, e_and, e_or, e_xor, e_shl, e_shr, e_eql, e_neq, e_lss, e_leq, e_gtr, e_geq, e_beq, e_bne, e_peq1, e_peq2, e_pne1, e_pne2, e_zeq1, e_zeq2, e_zne1, e_zne2, e_feq1, e_fne1, e_feq2, e_fne2, e_seq, e_sne, e_ta1, e_ta2, Nat.zero_add, Nat.add_zero, Bool.not_true, Bool.not_false]
    exact hE (by decide) w (Kp.refl _ _)
  simp only [h1, decide_false, e_fd, e_nck, e_pkt, e_pkf, e_gdtt, e_gdtf, e_gdft, e_gdff, e_ift, e_iff, e_not, e_ln, e_lnT, e_cp, e_cvi, e_ex20, e_ex21, e_ex30, e_ex31, e_ex32, e_add, e_sub, e_mul, e_quo, e_rem, e_and, e_or, e_xor, e_shl, e_shr, e_eql, e_neq, e_lss, e_leq, e_gtr, e_geq, e_beq, e_bne, e_peq1, e_peq2, e_pne1, e_pne2, e_zeq1, e_zeq2, e_zne1, e_zne2, e_feq1, e_fne1, e_feq2, e_fne2, e_seq, e_sne, e_ta1, e_ta2, Nat.zero_add, Nat.add_zero, Bool.not_true, Bool.not_false]
  by_cases h2 : 4096 < x
  · rw [bad3 (.inr (.inl h2))] at hE
    simp only [h2, decide_true, e_fd, e_nck, e_pkt, e_pkf, e_gdtt, e_gdtf, e_gdft, e_gdff, e_ift, e_iff, e_not, e_ln, e_lnT, e_cp, e_cvi, e_ex20, e_ex21, e_ex30, e_ex31, e_ex32, e_add, e_sub, e_mul, e_quo, e_rem, e_and, e_or, e_xor, e_shl, e_shr, e_eql, e_neq, e_lss, e_leq, e_gtr, e_geq, e_beq, e_bne, e_peq1, e_peq2, e_pne1, e_pne2, e_zeq1, e_zeq2, e_zne1, e_zne2, e_feq1, e_fne1, e_feq2, e_fne2, e_seq, e_sne, e_ta1, e_ta2, Nat.zero_add, Nat.add_zero, Bool.not_true, Bool.not_false]
    exact hE (by decide) w (Kp.refl _ _)
  simp only [h2, decide_false, e_fd, e_nck, e_pkt, e_pkf, e_gdtt, e_gdtf, e_gdft, e_gdff, e_ift, e_iff, e_not, e_ln, e_lnT, e_cp, e_cvi, e_ex20, e_ex21, e_ex30, e_ex31, e_ex32, e_add, e_sub, e_mul, e_quo, e_rem, e_and, e_or, e_xor, e_shl, e_shr, e_eql, e_neq, e_lss, e_leq, e_gtr, e_geq, e_beq, e_bne, e_peq1, e_peq2, e_pne1, e_pne2, e_zeq1, e_zeq2, e_zne1, e_zne2, e_feq1, e_fne1, e_feq2, e_fne2, e_seq, e_sne, e_ta1, e_ta2, Nat.zero_add, Nat.add_zero, Bool.not_true, Bool.not_false]
  by_cases h3 : y < 1
  · rw [bad3 (.inr (.inr (.inl h3)))] at hE
    simp only [h3, decide_true, e_fd, e_nck, e_pkt, e_pkf, e_gdtt, e_gdtf, e_gdft, e_gdff, e_ift, e_iff, e_not, e_ln, e_lnT, e_cp, e_cvi, e_ex20, e_ex21, e_ex30, e_ex31, e_ex32, e_add, e_sub, e_mul, e_quo, e_rem, e_and, e_or, e_xor, e_shl, e_shr, e_eql, e_neq, e_lss, e_leq, e_gtr, e_geq, e_beq, e_bne, e_peq1, e_peq2, e_pne1, e_pne2, e_zeq1, e_zeq2, e_zne1, e_zne2, e_feq1, e_fne1, e_feq2, e_fne2, e_seq, e_sne, e_ta1, e_ta2, Nat.zero_add, Nat.add_zero, Bool.not_true, Bool.not_false]
    exact hE (by decide) w (Kp.refl _ _)
  simp only [h3, decide_false, e_fd, e_nck, e_pkt, e_pkf, e_gdtt, e_gdtf, e_gdft, e_gdff, e_ift, e_iff, e_not, e_ln, e_lnT, e_cp, e_cvi, e_ex20, e_ex21, e_ex30, e_ex31, e_ex32, e_add, e_sub, e_mul, e_quo, e_rem, e_and, e_or, e_xor, e_shl, e_shr, e_eql, e_neq, e_lss, e_leq, e_gtr, e_geq, e_beq, e_bne, e_peq1, e_peq2, e_pne1, e_pne2, e_zeq1, e_zeq2, e_zne1, e_zne2, e_feq1, e_fne1, e_feq2, e_fne2, e_seq, e_sne, e_ta1, e_ta2, Nat.zero_add, Nat.add_zero, Bool.not_true, Bool.not_false]
  by_cases h4 : 65536 < y
  · rw [bad3 (.inr (.inr (.inr h4)))] at hE
    simp only [h4, decide_true, e_fd, e_nck, e_pkt, e_pkf, e_gdtt, e_gdtf, e_gdft, e_gdff, e_ift, e_iff, e_not, e_ln, e_lnT, e_cp, e_cvi, e_ex20, e_ex21, e_ex30, e_ex31, e_ex32, e_add, e_sub, e_mul, e_quo, e_rem, e_and, e_or, e_xor, e_shl, e_shr, e_eql, e_neq, e_lss, e_leq, e_gtr, e_geq, e_beq, e_bne, e_peq1, e_peq2, e_pne1, e_pne2, e_zeq1, e_zeq2, e_zne1, e_zne2, e_feq1, e_fne1, e_feq2, e_fne2, e_seq, e_sne, e_ta1, e_ta2, Nat.zero_add, Nat.add_zero, Bool.not_true, Bool.not_false]
    exact hE (by decide) w (Kp.refl _ _)
  simp only [h4, decide_false, e_fd, e_nck, e_pkt, e_pkf, e_gdtt, e_gdtf, e_gdft, e_gdff, e_ift, e_iff, e_not, e_ln, e_lnT, e_cp, e_cvi, e_ex20, e_ex21, e_ex30, e_ex31, e_ex32, e_add, e_sub, e_mul, e_quo, e_rem, e_and, e_or, e_xor, e_shl, e_shr, e_eql, e_neq, e_lss, e_leq, e_gtr, e_geq, e_beq, e_bne, e_peq1, e_peq2, e_pne1, e_pne2, e_zeq1, e_zeq2, e_zne1, e_zne2, e_feq1, e_fne1, e_feq2, e_fne2, e_seq, e_sne, e_ta1, e_ta2, Nat.zero_add, Nat.add_zero, Bool.not_true, Bool.not_false]
  refine ld1_r h.row rfl ?_
  refine h.sl.ln ?_
  try simp only [e_fd, e_nck, e_pkt, e_pkf, e_gdtt, e_gdtf, e_gdft, e_gdff, e_ift, e_iff, e_not, e_ln, e_lnT, e_cp, e_cvi, e_ex20, e_ex21, e_ex30, e_ex31, e_ex32, e_add, e_sub, e_mul, e_quo, e_rem, e_and, e_or, e_xor, e_shl, e_shr, e_eql, e_neq, e_lss, e_leq, e_gtr, e_geq, e_beq, e_bne, e_peq1, e_peq2, e_pne1, e_pne2, e_zeq1, e_zeq2, e_zne1, e_zne2, e_feq1, e_fne1, e_feq2, e_fne2, e_seq, e_sne, e_ta1, e_ta2, Nat.zero_add, Nat.add_zero, Bool.not_true, Bool.not_false]
  by_cases h5 : M.ps.length = 8
  · have e : (((M.ps.length : Nat) : Int) == 8) = true := by rw [h5]; rfl
    simp only [e, e_fd, e_nck, e_pkt, e_pkf, e_gdtt, e_gdtf, e_gdft, e_gdff, e_ift, e_iff, e_not, e_ln, e_lnT, e_cp, e_cvi, e_ex20, e_ex21, e_ex30, e_ex31, e_ex32, e_add, e_sub, e_mul, e_quo, e_rem, e_and, e_or, e_xor, e_shl, e_shr, e_eql, e_neq, e_lss, e_leq, e_gtr, e_geq, e_beq, e_bne, e_peq1, e_peq2, e_pne1, e_pne2, e_zeq1, e_zeq2, e_zne1, e_zne2, e_feq1, e_fne1, e_feq2, e_fne2, e_seq, e_sne, e_ta1, e_ta2, Nat.zero_add, Nat.add_zero, Bool.not_true, Bool.not_false]
    have ec : crC T x y = 4 := by unfold crC; rw [if_neg (by omega), if_pos (by omega)]
    rw [ec] at hE
    exact hE (by decide) w (Kp.refl _ _)
  have e : (((M.ps.length : Nat) : Int) == 8) = false := by rw [beq_eq_false_iff_ne]; omega
  simp only [e, e_fd, e_nck, e_pkt, e_pkf, e_gdtt, e_gdtf, e_gdft, e_gdff, e_ift, e_iff, e_not, e_ln, e_lnT, e_cp, e_cvi, e_ex20, e_ex21, e_ex30, e_ex31, e_ex32, e_add, e_sub, e_mul, e_quo, e_rem, e_and, e_or, e_xor, e_shl, e_shr, e_eql, e_neq, e_lss, e_leq, e_gtr, e_geq, e_beq, e_bne, e_peq1, e_peq2, e_pne1, e_pne2, e_zeq1, e_zeq2, e_zne1, e_zne2, e_feq1, e_fne1, e_feq2, e_fne2, e_seq, e_sne, e_ta1, e_ta2, Nat.zero_add, Nat.add_zero, Bool.not_true, Bool.not_false]
  obtain ⟨bw, hbw⟩ : ∃ bw : Nat, x = (bw : Int) := ⟨x.toNat, by omega⟩
  obtain ⟨n, hn⟩ : ∃ n : Nat, y = (n : Int) := ⟨y.toNat, by omega⟩
  subst hbw
  subst hn
  have n1 : n ≤ 65536 := by omega
  have n2 : bw ≤ 4096 := by omega
  have n3 : 1 ≤ n := by omega
  have n4 : 1 ≤ bw := by omega
  have hec : crC T ((bw : Nat) : Int) ((n : Nat) : Int) = if T.lim - T.next < 5 + mapW n + n * bw then 5 else 0 := by
    unfold crC
    rw [if_neg (by omega), if_neg (by omega), Int.toNat_natCast, Int.toNat_natCast]
  have hmw : mapW n ≤ 1024 := by unfold mapW; omega
  have hnb : n * bw ≤ 65536 * 4096 := Nat.mul_le_mul n1 n2
  clear h1 h2 h3 h4 bad3
  rw [Int.toNat_natCast, Int.toNat_natCast] at hO
  have go : s40_p1 K (P M.mb 0) (I (bw : Nat)) (I (n : Nat)) (I (mapW n : Nat)) w := by
    unfold s40_p1
    try simp only [e_fd, e_nck, e_pkt, e_pkf, e_gdtt, e_gdtf, e_gdft, e_gdff, e_ift, e_iff, e_not, e_ln, e_lnT, e_cp, e_cvi, e_ex20, e_ex21, e_ex30, e_ex31, e_ex32, e_add, e_sub, e_mul, e_quo, e_rem, e_and, e_or, e_xor, e_shl, e_shr, e_eql, e_neq, e_lss, e_leq, e_gtr, e_geq, e_beq, e_bne, e_peq1, e_peq2, e_pne1, e_pne2, e_zeq1, e_zeq2, e_zne1, e_zne2, e_feq1, e_fne1, e_feq2, e_fne2, e_seq, e_sne, e_ta1, e_ta2, Nat.zero_add, Nat.add_zero, Bool.not_true, Bool.not_false]
    have e1 : IntKind.i64.wrap (5 + ((mapW n : Nat) : Int)) = ((5 + mapW n : Nat) : Int) := by rw [wrap64_id (by omega) (by omega)]; omega
    have e2 : IntKind.i64.wrap (((n : Nat) : Int) * ((bw : Nat) : Int)) = ((n * bw : Nat) : Int) := by rw [← Int.natCast_mul, wrap64_id (by omega) (by omega)]
    have e3 : IntKind.i64.wrap (((5 + mapW n : Nat) : Int) + ((n * bw : Nat) : Int)) = ((5 + mapW n + n * bw : Nat) : Int) := by rw [wrap64_id (by omega) (by omega)]; omega
    rw [e1, e2, e3]
    generalize hcl : 5 + mapW n + n * bw = claim at hec ⊢
    refine ld1_r h.row rfl ?_
    try simp only [e_fd, e_nck, e_pkt, e_pkf, e_gdtt, e_gdtf, e_gdft, e_gdff, e_ift, e_iff, e_not, e_ln, e_lnT, e_cp, e_cvi, e_ex20, e_ex21, e_ex30, e_ex31, e_ex32, e_add, e_sub, e_mul, e_quo, e_rem, e_and, e_or, e_xor, e_shl, e_shr, e_eql, e_neq, e_lss, e_leq, e_gtr, e_geq, e_beq, e_bne, e_peq1, e_peq2, e_pne1, e_pne2, e_zeq1, e_zeq2, e_zne1, e_zne2, e_feq1, e_fne1, e_feq2, e_fne2, e_seq, e_sne, e_ta1, e_ta2, Nat.zero_add, Nat.add_zero, Bool.not_true, Bool.not_false]
    by_cases h7 : M.room < claim
    · have e7 : ((M.room : Nat) : Int) < ((claim : Nat) : Int) := by omega
      simp only [e7, decide_true, e_fd, e_nck, e_pkt, e_pkf, e_gdtt, e_gdtf, e_gdft, e_gdff, e_ift, e_iff, e_not, e_ln, e_lnT, e_cp, e_cvi, e_ex20, e_ex21, e_ex30, e_ex31, e_ex32, e_add, e_sub, e_mul, e_quo, e_rem, e_and, e_or, e_xor, e_shl, e_shr, e_eql, e_neq, e_lss, e_leq, e_gtr, e_geq, e_beq, e_bne, e_peq1, e_peq2, e_pne1, e_pne2, e_zeq1, e_zeq2, e_zne1, e_zne2, e_feq1, e_fne1, e_feq2, e_fne2, e_seq, e_sne, e_ta1, e_ta2, Nat.zero_add, Nat.add_zero, Bool.not_true, Bool.not_false]
      rw [if_pos (by omega)] at hec
      rw [hec] at hE
      exact hE (by decide) w (Kp.refl _ _)
    · have e7 : ¬ ((M.room : Nat) : Int) < ((claim : Nat) : Int) := by omega
      simp only [e7, decide_false, e_fd, e_nck, e_pkt, e_pkf, e_gdtt, e_gdtf, e_gdft, e_gdff, e_ift, e_iff, e_not, e_ln, e_lnT, e_cp, e_cvi, e_ex20, e_ex21, e_ex30, e_ex31, e_ex32, e_add, e_sub, e_mul, e_quo, e_rem, e_and, e_or, e_xor, e_shl, e_shr, e_eql, e_neq, e_lss, e_leq, e_gtr, e_geq, e_beq, e_bne, e_peq1, e_peq2, e_pne1, e_pne2, e_zeq1, e_zeq2, e_zne1, e_zne2, e_feq1, e_fne1, e_feq2, e_fne2, e_seq, e_sne, e_ta1, e_ta2, Nat.zero_add, Nat.add_zero, Bool.not_true, Bool.not_false]
      rw [if_neg (by omega)] at hec
      refine ld1_r h.row rfl ?_
      try simp only [e_fd, e_nck, e_pkt, e_pkf, e_gdtt, e_gdtf, e_gdft, e_gdff, e_ift, e_iff, e_not, e_ln, e_lnT, e_cp, e_cvi, e_ex20, e_ex21, e_ex30, e_ex31, e_ex32, e_add, e_sub, e_mul, e_quo, e_rem, e_and, e_or, e_xor, e_shl, e_shr, e_eql, e_neq, e_lss, e_leq, e_gtr, e_geq, e_beq, e_bne, e_peq1, e_peq2, e_pne1, e_pne2, e_zeq1, e_zeq2, e_zne1, e_zne2, e_feq1, e_fne1, e_feq2, e_fne2, e_seq, e_sne, e_ta1, e_ta2, Nat.zero_add, Nat.add_zero, Bool.not_true, Bool.not_false]
      have e8 : IntKind.i64.wrap (((M.room : Nat) : Int) - ((claim : Nat) : Int)) = ((M.room - claim : Nat) : Int) := by rw [wrap64_id (by omega) (by omega)]; omega
      rw [e8]
      refine st1_r h.row (show 0 < 2 by decide) rfl fun w1 r1 hk1 hz1 => ?_
      have r1' : Row w1 M.mb 54 [I (M.room - claim : Nat), M.sv] := r1
      try simp only [e_fd, e_nck, e_pkt, e_pkf, e_gdtt, e_gdtf, e_gdft, e_gdff, e_ift, e_iff, e_not, e_ln, e_lnT, e_cp, e_cvi, e_ex20, e_ex21, e_ex30, e_ex31, e_ex32, e_add, e_sub, e_mul, e_quo, e_rem, e_and, e_or, e_xor, e_shl, e_shr, e_eql, e_neq, e_lss, e_leq, e_gtr, e_geq, e_beq, e_bne, e_peq1, e_peq2, e_pne1, e_pne2, e_zeq1, e_zeq2, e_zne1, e_zne2, e_feq1, e_fne1, e_feq2, e_fne2, e_seq, e_sne, e_ta1, e_ta2, Nat.zero_add, Nat.add_zero, Bool.not_true, Bool.not_false]
      refine ld1_r r1' rfl ?_
      refine mk_mapT (q := .i64) fun w2 hm2 hk2 hz2 => ?_
      refine bdq_r (l := [I (bw : Nat), I (n : Nat), .map (some w1.heap.size), I (0 : Nat), U64 0]) rfl ?_
      refine nw_r fun w3 r3 hk3 hz3 => ?_
      have r3' : Row w3 w2.heap.size 60 [I (bw : Nat), I (n : Nat), .map (some w1.heap.size), I (0 : Nat), U64 0] := r3
      have r13 : Row w3 M.mb 54 [I (M.room - claim : Nat), M.sv] := (hk2.trans hk3).row' r1'
      have hm3 : MapT w3 w1.heap.size .i64 [] := hm2.kp hk3 (fun q => q)
      have k03 : Kp (fun b => b = M.mb) w w3 := hk1.then (hk2.trans hk3) (fun b hb q => q.elim)
      have sl3 : Sl ppV 1 w3 57 M.ob M.sv M.ps := h.sl.kp k03 (fun b hb (q : b = _) => h.sl.ne h.row (by decide) (by rw [hb, q]))
      refine Sl.app (f := ppV) (k := 1) ppV_len rfl sl3 ⟨bw, n, [], 0, 0, w2.heap.size, w1.heap.size⟩ rfl (by omega) (by omega) rfl fun w4 v4 ob4 sl4 hk4 ho4 => ?_
      have sz1 := hk1.size
      have sz2 := hk2.size
      have sz3 := hk3.size
      have nm : ∀ {b t l}, Row w3 b t l → t ≠ 57 → ¬ (M.ob = some b) := fun hr ht q => by
        obtain ⟨l', hr'⟩ := sl3.row q
        exact row_ne hr hr' ht rfl
      have r14 := hk4.row r13 (nm r13 (by decide))
      try simp only [e_fd, e_nck, e_pkt, e_pkf, e_gdtt, e_gdtf, e_gdft, e_gdff, e_ift, e_iff, e_not, e_ln, e_lnT, e_cp, e_cvi, e_ex20, e_ex21, e_ex30, e_ex31, e_ex32, e_add, e_sub, e_mul, e_quo, e_rem, e_and, e_or, e_xor, e_shl, e_shr, e_eql, e_neq, e_lss, e_leq, e_gtr, e_geq, e_beq, e_bne, e_peq1, e_peq2, e_pne1, e_pne2, e_zeq1, e_zeq2, e_zne1, e_zne2, e_feq1, e_fne1, e_feq2, e_fne2, e_seq, e_sne, e_ta1, e_ta2, Nat.zero_add, Nat.add_zero, Bool.not_true, Bool.not_false]
      refine st1_r r14 (show 1 < 2 by decide) (by simpa using sl_scal sl4) fun w5 r5 hk5 hz5 => ?_
      have r5' : Row w5 M.mb 54 [I (M.room - claim : Nat), v4] := r5
      try simp only [e_fd, e_nck, e_pkt, e_pkf, e_gdtt, e_gdtf, e_gdft, e_gdff, e_ift, e_iff, e_not, e_ln, e_lnT, e_cp, e_cvi, e_ex20, e_ex21, e_ex30, e_ex31, e_ex32, e_add, e_sub, e_mul, e_quo, e_rem, e_and, e_or, e_xor, e_shl, e_shr, e_eql, e_neq, e_lss, e_leq, e_gtr, e_geq, e_beq, e_bne, e_peq1, e_peq2, e_pne1, e_pne2, e_zeq1, e_zeq2, e_zne1, e_zne2, e_feq1, e_fne1, e_feq2, e_fne2, e_seq, e_sne, e_ta1, e_ta2, Nat.zero_add, Nat.add_zero, Bool.not_true, Bool.not_false]
      refine ld1_r r5' rfl ?_
      have sl5 : Sl ppV 1 w5 57 ob4 v4 (M.ps ++ [⟨bw, n, [], 0, 0, w2.heap.size, w1.heap.size⟩]) := sl4.kp hk5 (fun b hb (q : b = _) => sl4.ne r14 (by decide) (by rw [hb, q]))
      refine sl5.ln ?_
      rw [List.length_append, List.length_singleton]
      try simp only [e_fd, e_nck, e_pkt, e_pkf, e_gdtt, e_gdtf, e_gdft, e_gdff, e_ift, e_iff, e_not, e_ln, e_lnT, e_cp, e_cvi, e_ex20, e_ex21, e_ex30, e_ex31, e_ex32, e_add, e_sub, e_mul, e_quo, e_rem, e_and, e_or, e_xor, e_shl, e_shr, e_eql, e_neq, e_lss, e_leq, e_gtr, e_geq, e_beq, e_bne, e_peq1, e_peq2, e_pne1, e_pne2, e_zeq1, e_zeq2, e_zne1, e_zne2, e_feq1, e_fne1, e_feq2, e_fne2, e_seq, e_sne, e_ta1, e_ta2, Nat.zero_add, Nat.add_zero, Bool.not_true, Bool.not_false]
      have e9 : IntKind.i64.wrap (((M.ps.length + 1 : Nat) : Int) - 1) = ((M.ps.length : Nat) : Int) := by rw [wrap64_id (by omega) (by omega)]; omega
      rw [e9]
      have k35 : Kp (fun b => b = M.mb ∨ M.ob = some b) w3 w5 := (hk4.mono (fun b _ q => .inr q)).trans (hk5.mono (fun b _ q => .inl q))
      have k05 : Kp (fun b => b = M.mb ∨ M.ob = some b) w w5 := (k03.mono (fun b _ q => .inl q)).trans k35
      have nrow : ∀ {w : World} {b t l}, Row w M.mb 54 l → (∀ b', M.ob = some b' → ∃ l', Row w b' 57 l') → ∀ {l2}, Row w b t l2 → t ≠ 54 → t ≠ 57 → ¬ (b = M.mb ∨ M.ob = some b) := by
        intro w b t l h1 h2 l2 hr a1 a2 q
        rcases q with q | q
        · exact row_ne hr h1 a1 q
        · obtain ⟨l', hr'⟩ := h2 b q; exact row_ne hr hr' a2 rfl
      have nmap : ∀ {w : World} {b l ns}, Row w M.mb 54 l → (∀ b', M.ob = some b' → ∃ l', Row w b' 57 l') → MapT w b .i64 ns → ¬ (b = M.mb ∨ M.ob = some b) := by
        intro w b l ns h1 h2 hm q
        rcases q with q | q
        · exact hm.not_row h1 q.symm
        · obtain ⟨l', hr'⟩ := h2 b q; exact hm.not_row hr' rfl
      have s0 : ∀ b', M.ob = some b' → ∃ l', Row w b' 57 l' := fun b' q => h.sl.row q
      have s3 : ∀ b', M.ob = some b' → ∃ l', Row w3 b' 57 l' := fun b' q => sl3.row q
      refine hO hec w5 ⟨M.mb, M.room - claim, ob4, v4, M.ps ++ [⟨bw, n, [], 0, 0, w2.heap.size, w1.heap.size⟩]⟩ w2.heap.size w1.heap.size ⟨r5', sl5, fun p hp => ?_, fun p hp => ?_, ?_, ?_⟩ rfl ?_ rfl (fun b hb => ?_) (k05.mono fun b _ q => ?_)
      · rcases List.mem_append.1 hp with q | q
        · exact k05.row (h.rw p q) (nrow h.row s0 (h.rw p q) (by decide) (by decide))
        · rw [List.mem_singleton] at q; subst q
          exact k35.row r3' (nrow r13 s3 r3' (by decide) (by decide))
      · rcases List.mem_append.1 hp with q | q
        · exact (h.mp p q).kp k05 (nmap h.row s0 (h.mp p q))
        · rw [List.mem_singleton] at q; subst q
          exact hm3.kp k35 (nmap r13 s3 hm3)
      · show ((M.ps ++ [_]).map _).Nodup
        rw [List.map_append, List.nodup_append]
        refine ⟨h.nd1, by simp, fun x hx y hy => ?_⟩
        obtain ⟨p, hp, rfl⟩ := List.mem_map.1 hx
        have := (h.rw p hp).lt
        have hy : y = w2.heap.size := by simpa using hy
        omega
      · show ((M.ps ++ [_]).map _).Nodup
        rw [List.map_append, List.nodup_append]
        refine ⟨h.nd2, by simp, fun x hx y hy => ?_⟩
        obtain ⟨p, hp, rfl⟩ := List.mem_map.1 hx
        have := (h.mp p hp).lt
        have hy : y = w1.heap.size := by simpa using hy
        omega
      · show M.room - claim + (T.next + (5 + mapW n + n * bw)) = T.lim
        omega
      · rcases hb with q | q | ⟨p, hp, q⟩ | ⟨p, hp, q⟩
        · exact .inl (.inl q)
        · have q : ob4 = some b := q
          rcases ho4 with e | ⟨b', e, hb'⟩
          · exact .inl (.inr (.inl (by rw [← e]; exact q)))
          · rw [e] at q; cases q; exact .inr (by omega)
        · rcases List.mem_append.1 hp with q' | q'
          · exact .inl (.inr (.inr (.inl ⟨p, q', q⟩)))
          · rw [List.mem_singleton] at q'; subst q'
            have q : w2.heap.size = b := q
            exact .inr (by omega)
        · rcases List.mem_append.1 hp with q' | q'
          · exact .inl (.inr (.inr (.inr ⟨p, q', q⟩)))
          · rw [List.mem_singleton] at q'; subst q'
            have q : w1.heap.size = b := q
            exact .inr (by omega)
      · rcases q with q | q
        · exact .inl q
        · exact .inr (.inl q)
  refine ⟨by decide, ?_⟩
  have ed : IntKind.i64.wrap (((n : Nat) : Int).tdiv 64) = ((n / 64 : Nat) : Int) := by
    rw [Int.tdiv_eq_ediv_of_nonneg (by omega), wrap64_id (by omega) (by omega)]; omega
  rw [ed]
  refine ⟨by decide, ?_⟩
  have em : ((n : Nat) : Int).tmod 64 = ((n % 64 : Nat) : Int) := by
    rw [Int.tmod_eq_emod_of_nonneg (by omega)]; omega
  rw [em]
  by_cases h6 : 0 < n % 64
  · have e6 : (0 : Int) < ((n % 64 : Nat) : Int) := by omega
    simp only [e6, decide_true, e_fd, e_nck, e_pkt, e_pkf, e_gdtt, e_gdtf, e_gdft, e_gdff, e_ift, e_iff, e_not, e_ln, e_lnT, e_cp, e_cvi, e_ex20, e_ex21, e_ex30, e_ex31, e_ex32, e_add, e_sub, e_mul, e_quo, e_rem, e_and, e_or, e_xor, e_shl, e_shr, e_eql, e_neq, e_lss, e_leq, e_gtr, e_geq, e_beq, e_bne, e_peq1, e_peq2, e_pne1, e_pne2, e_zeq1, e_zeq2, e_zne1, e_zne2, e_feq1, e_fne1, e_feq2, e_fne2, e_seq, e_sne, e_ta1, e_ta2, Nat.zero_add, Nat.add_zero, Bool.not_true, Bool.not_false]
    have e7 : IntKind.i64.wrap (((n / 64 : Nat) : Int) + 1) = ((mapW n : Nat) : Int) := by rw [wrap64_id (by omega) (by omega)]; unfold mapW; omega
    rw [e7]; exact go
  · have e6 : ¬ (0 : Int) < ((n % 64 : Nat) : Int) := by omega
    simp only [e6, decide_false, e_fd, e_nck, e_pkt, e_pkf, e_gdtt, e_gdtf, e_gdft, e_gdff, e_ift, e_iff, e_not, e_ln, e_lnT, e_cp, e_cvi, e_ex20, e_ex21, e_ex30, e_ex31, e_ex32, e_add, e_sub, e_mul, e_quo, e_rem, e_and, e_or, e_xor, e_shl, e_shr, e_eql, e_neq, e_lss, e_leq, e_gtr, e_geq, e_beq, e_bne, e_peq1, e_peq2, e_pne1, e_pne2, e_zeq1, e_zeq2, e_zne1, e_zne2, e_feq1, e_fne1, e_feq2, e_fne2, e_seq, e_sne, e_ta1, e_ta2, Nat.zero_add, Nat.add_zero, Bool.not_true, Bool.not_false]
    have e7 : ((n / 64 : Nat) : Int) = ((mapW n : Nat) : Int) := by unfold mapW; omega
    rw [e7]; exact go

/-- the pool whose blocks hold an address, by trying each in turn -/
def ownV (T : Tb) (a : Nat) : Int := match ownI T a with
  | some i => (i : Int)
  | none => -1
theorem wowner_ok (h : LSt W w m s) (hM : MAt w M) (hmd : m.md = P M.mb 0) (hl : M.ps.length = s.T.ps.length) (hq : ∀ i (hi : i < s.T.ps.length) (hm : i < M.ps.length), M.ps[i].bw = s.T.ps[i].bw ∧ M.ps[i].n = s.T.ps[i].n) (ha : a < 4294967296)
    (hK : ∀ w', Kp (fun _ => False) w w' → K (I (ownV s.T a)) w') : cl Tryd.prog 18 #[P m.wdb 0, U32 a] K w := by
  have ok := h.wd.ok
  have t3 := ok.len
  have row' : Row w m.wdb 50 [P m.ab 0, P m.tb 0, P M.mb 0, m.lv] := by have := h.wd.row; rw [hmd] at this; exact this
  apply c18
  unfold s18_p8
  try simp only [e_fd, e_nck, e_pkt, e_pkf, e_gdtt, e_gdtf, e_gdft, e_gdff, e_ift, e_iff, e_not, e_ln, e_lnT, e_cp, e_cvi, e_ex20, e_ex21, e_ex30, e_ex31, e_ex32, e_add, e_sub, e_mul, e_quo, e_rem, e_and, e_or, e_xor, e_shl, e_shr, e_eql, e_neq, e_lss, e_leq, e_gtr, e_geq, e_beq, e_bne, e_peq1, e_peq2, e_pne1, e_pne2, e_zeq1, e_zeq2, e_zne1, e_zne2, e_feq1, e_fne1, e_feq2, e_fne2, e_seq, e_sne, e_ta1, e_ta2, Nat.zero_add, Nat.add_zero, Bool.not_true, Bool.not_false]
  refine ld1_r row' rfl ?_
  try simp only [e_fd, e_nck, e_pkt, e_pkf, e_gdtt, e_gdtf, e_gdft, e_gdff, e_ift, e_iff, e_not, e_ln, e_lnT, e_cp, e_cvi, e_ex20, e_ex21, e_ex30, e_ex31, e_ex32, e_add, e_sub, e_mul, e_quo, e_rem, e_and, e_or, e_xor, e_shl, e_shr, e_eql, e_neq, e_lss, e_leq, e_gtr, e_geq, e_beq, e_bne, e_peq1, e_peq2, e_pne1, e_pne2, e_zeq1, e_zeq2, e_zne1, e_zne2, e_feq1, e_fne1, e_feq2, e_fne2, e_seq, e_sne, e_ta1, e_ta2, Nat.zero_add, Nat.add_zero, Bool.not_true, Bool.not_false]
  refine ld1_r hM.row rfl ?_
  refine hM.sl.ln ?_
  unfold s18_p7
  refine ⟨fun n l w' => ∃ i : Nat, n + i = M.ps.length ∧ l = [P m.wdb 0, U32 a, I (M.ps.length : Nat), I (i : Nat)] ∧ Kp (fun _ => False) w w' ∧ ∀ k (hk : k < s.T.ps.length), k < i → ¬ inP s.T.ps[k] a, M.ps.length, ⟨0, rfl, rfl, Kp.refl _ _, fun k _ hk => absurd hk (Nat.not_lt_zero _)⟩, ?_⟩
  rintro n q w1 ⟨i, hn, rfl, hk1, hno⟩
  rw [s18_p7_Fe]
  unfold s18_p6
  try simp only [e_fd, e_nck, e_pkt, e_pkf, e_gdtt, e_gdtf, e_gdft, e_gdff, e_ift, e_iff, e_not, e_ln, e_lnT, e_cp, e_cvi, e_ex20, e_ex21, e_ex30, e_ex31, e_ex32, e_add, e_sub, e_mul, e_quo, e_rem, e_and, e_or, e_xor, e_shl, e_shr, e_eql, e_neq, e_lss, e_leq, e_gtr, e_geq, e_beq, e_bne, e_peq1, e_peq2, e_pne1, e_pne2, e_zeq1, e_zeq2, e_zne1, e_zne2, e_feq1, e_fne1, e_feq2, e_fne2, e_seq, e_sne, e_ta1, e_ta2, Nat.zero_add, Nat.add_zero, Bool.not_true, Bool.not_false]
  have h1 := h.kp' hk1
  have hM1 := hM.kp' hk1
  by_cases hlt : i < M.ps.length
  · have hlt' : ((i : Nat) : Int) < ((M.ps.length : Nat) : Int) := by omega
    simp only [hlt', decide_true, e_fd, e_nck, e_pkt, e_pkf, e_gdtt, e_gdtf, e_gdft, e_gdff, e_ift, e_iff, e_not, e_ln, e_lnT, e_cp, e_cvi, e_ex20, e_ex21, e_ex30, e_ex31, e_ex32, e_add, e_sub, e_mul, e_quo, e_rem, e_and, e_or, e_xor, e_shl, e_shr, e_eql, e_neq, e_lss, e_leq, e_gtr, e_geq, e_beq, e_bne, e_peq1, e_peq2, e_pne1, e_pne2, e_zeq1, e_zeq2, e_zne1, e_zne2, e_feq1, e_fne1, e_feq2, e_fne2, e_seq, e_sne, e_ta1, e_ta2, Nat.zero_add, Nat.add_zero, Bool.not_true, Bool.not_false]
    have hi : i < s.T.ps.length := by omega
    obtain ⟨q1, q2⟩ := hq i hi hlt
    have hok := (ok.sh _ (List.getElem_mem hi)).1
    have o3 := hok.fin
    have o4 := hok.lim
    unfold s18_p5
    try simp only [e_fd, e_nck, e_pkt, e_pkf, e_gdtt, e_gdtf, e_gdft, e_gdff, e_ift, e_iff, e_not, e_ln, e_lnT, e_cp, e_cvi, e_ex20, e_ex21, e_ex30, e_ex31, e_ex32, e_add, e_sub, e_mul, e_quo, e_rem, e_and, e_or, e_xor, e_shl, e_shr, e_eql, e_neq, e_lss, e_leq, e_gtr, e_geq, e_beq, e_bne, e_peq1, e_peq2, e_pne1, e_pne2, e_zeq1, e_zeq2, e_zne1, e_zne2, e_feq1, e_fne1, e_feq2, e_fne2, e_seq, e_sne, e_ta1, e_ta2, Nat.zero_add, Nat.add_zero, Bool.not_true, Bool.not_false]
    refine ld1_r (hk1.row' row') rfl ?_
    try simp only [e_fd, e_nck, e_pkt, e_pkf, e_gdtt, e_gdtf, e_gdft, e_gdff, e_ift, e_iff, e_not, e_ln, e_lnT, e_cp, e_cvi, e_ex20, e_ex21, e_ex30, e_ex31, e_ex32, e_add, e_sub, e_mul, e_quo, e_rem, e_and, e_or, e_xor, e_shl, e_shr, e_eql, e_neq, e_lss, e_leq, e_gtr, e_geq, e_beq, e_bne, e_peq1, e_peq2, e_pne1, e_pne2, e_zeq1, e_zeq2, e_zne1, e_zne2, e_feq1, e_fne1, e_feq2, e_fne2, e_seq, e_sne, e_ta1, e_ta2, Nat.zero_add, Nat.add_zero, Bool.not_true, Bool.not_false]
    refine ld1_r hM1.row rfl ?_
    refine hM1.get hlt ?_
    refine offset_ok h1 ha fun w2 hk2 => ?_
    rw [pl_some hi]
    unfold s18_p4 s18_p4_d
    have k02 : Kp (fun _ => False) w (drw w2) := (hk1.trans hk2).trans kp_drw
    have hr : Row (drw w2) M.ps[i].pb 60 (mpR M.ps[i]) := (hk2.row' (hM1.rw _ (List.getElem_mem hlt))).drw
    generalize drw w2 = w3 at k02 hr ⊢
    have hr' : Row w3 M.ps[i].pb 60 [I s.T.ps[i].bw, I s.T.ps[i].n, .map (some M.ps[i].mp), I M.ps[i].pk, U64 M.ps[i].fl] := by rw [← q1, ← q2]; exact hr
    try simp only [e_fd, e_nck, e_pkt, e_pkf, e_gdtt, e_gdtf, e_gdft, e_gdff, e_ift, e_iff, e_not, e_ln, e_lnT, e_cp, e_cvi, e_ex20, e_ex21, e_ex30, e_ex31, e_ex32, e_add, e_sub, e_mul, e_quo, e_rem, e_and, e_or, e_xor, e_shl, e_shr, e_eql, e_neq, e_lss, e_leq, e_gtr, e_geq, e_beq, e_bne, e_peq1, e_peq2, e_pne1, e_pne2, e_zeq1, e_zeq2, e_zne1, e_zne2, e_feq1, e_fne1, e_feq2, e_fne2, e_seq, e_sne, e_ta1, e_ta2, Nat.zero_add, Nat.add_zero, Bool.not_true, Bool.not_false]
    have miss : ¬ inP s.T.ps[i] a → s18_p2 K (fun l' w' => ∃ m_1, m_1 < n ∧ ∃ i : Nat, m_1 + i = M.ps.length ∧ l' = [P m.wdb 0, U32 a, I (M.ps.length : Nat), I (i : Nat)] ∧ Kp (fun _ => False) w w' ∧ ∀ k (hk : k < s.T.ps.length), k < i → ¬ inP s.T.ps[k] a) (P m.wdb 0) (U32 a) (I (M.ps.length : Nat)) (I (i : Nat)) w3 := by
      intro hni
      unfold s18_p2
      try simp only [e_fd, e_nck, e_pkt, e_pkf, e_gdtt, e_gdtf, e_gdft, e_gdff, e_ift, e_iff, e_not, e_ln, e_lnT, e_cp, e_cvi, e_ex20, e_ex21, e_ex30, e_ex31, e_ex32, e_add, e_sub, e_mul, e_quo, e_rem, e_and, e_or, e_xor, e_shl, e_shr, e_eql, e_neq, e_lss, e_leq, e_gtr, e_geq, e_beq, e_bne, e_peq1, e_peq2, e_pne1, e_pne2, e_zeq1, e_zeq2, e_zne1, e_zne2, e_feq1, e_fne1, e_feq2, e_fne2, e_seq, e_sne, e_ta1, e_ta2, Nat.zero_add, Nat.add_zero, Bool.not_true, Bool.not_false]
      rw [wrap64_id (by omega) (by omega)]
      refine ⟨n - 1, by omega, i + 1, by omega, by simp, k02, fun k hk hki => ?_⟩
      by_cases e : k = i
      · subst e; exact hni
      · exact hno k hk (by omega)
    by_cases h0 : s.T.ps[i].fst ≤ a
    · have e0 : (0 : Int) ≤ (a : Int) - (s.T.ps[i].fst : Int) := by omega
      simp only [e0, decide_true, e_fd, e_nck, e_pkt, e_pkf, e_gdtt, e_gdtf, e_gdft, e_gdff, e_ift, e_iff, e_not, e_ln, e_lnT, e_cp, e_cvi, e_ex20, e_ex21, e_ex30, e_ex31, e_ex32, e_add, e_sub, e_mul, e_quo, e_rem, e_and, e_or, e_xor, e_shl, e_shr, e_eql, e_neq, e_lss, e_leq, e_gtr, e_geq, e_beq, e_bne, e_peq1, e_peq2, e_pne1, e_pne2, e_zeq1, e_zeq2, e_zne1, e_zne2, e_feq1, e_fne1, e_feq2, e_fne2, e_seq, e_sne, e_ta1, e_ta2, Nat.zero_add, Nat.add_zero, Bool.not_true, Bool.not_false]
      refine ld1_r hr' rfl ?_
      try simp only [e_fd, e_nck, e_pkt, e_pkf, e_gdtt, e_gdtf, e_gdft, e_gdff, e_ift, e_iff, e_not, e_ln, e_lnT, e_cp, e_cvi, e_ex20, e_ex21, e_ex30, e_ex31, e_ex32, e_add, e_sub, e_mul, e_quo, e_rem, e_and, e_or, e_xor, e_shl, e_shr, e_eql, e_neq, e_lss, e_leq, e_gtr, e_geq, e_beq, e_bne, e_peq1, e_peq2, e_pne1, e_pne2, e_zeq1, e_zeq2, e_zne1, e_zne2, e_feq1, e_fne1, e_feq2, e_fne2, e_seq, e_sne, e_ta1, e_ta2, Nat.zero_add, Nat.add_zero, Bool.not_true, Bool.not_false]
      refine ld1_r hr' rfl ?_
      try simp only [e_fd, e_nck, e_pkt, e_pkf, e_gdtt, e_gdtf, e_gdft, e_gdff, e_ift, e_iff, e_not, e_ln, e_lnT, e_cp, e_cvi, e_ex20, e_ex21, e_ex30, e_ex31, e_ex32, e_add, e_sub, e_mul, e_quo, e_rem, e_and, e_or, e_xor, e_shl, e_shr, e_eql, e_neq, e_lss, e_leq, e_gtr, e_geq, e_beq, e_bne, e_peq1, e_peq2, e_pne1, e_pne2, e_zeq1, e_zeq2, e_zne1, e_zne2, e_feq1, e_fne1, e_feq2, e_fne2, e_seq, e_sne, e_ta1, e_ta2, Nat.zero_add, Nat.add_zero, Bool.not_true, Bool.not_false]
      rw [← Int.natCast_mul, wrap64_id (n := ((s.T.ps[i].n * s.T.ps[i].bw : Nat) : Int)) (by omega) (by omega)]
      unfold s18_p3
      by_cases h2 : a < s.T.ps[i].fin
      · have e2 : (a : Int) - (s.T.ps[i].fst : Int) < ((s.T.ps[i].n * s.T.ps[i].bw : Nat) : Int) := by omega
        simp only [e2, decide_true, e_fd, e_nck, e_pkt, e_pkf, e_gdtt, e_gdtf, e_gdft, e_gdff, e_ift, e_iff, e_not, e_ln, e_lnT, e_cp, e_cvi, e_ex20, e_ex21, e_ex30, e_ex31, e_ex32, e_add, e_sub, e_mul, e_quo, e_rem, e_and, e_or, e_xor, e_shl, e_shr, e_eql, e_neq, e_lss, e_leq, e_gtr, e_geq, e_beq, e_bne, e_peq1, e_peq2, e_pne1, e_pne2, e_zeq1, e_zeq2, e_zne1, e_zne2, e_feq1, e_fne1, e_feq2, e_fne2, e_seq, e_sne, e_ta1, e_ta2, Nat.zero_add, Nat.add_zero, Bool.not_true, Bool.not_false]
        have := hK w3 k02
        unfold ownV at this
        rw [ownI_some ok hi ⟨h0, h2⟩] at this
        exact this
      · have e2 : ¬ (a : Int) - (s.T.ps[i].fst : Int) < ((s.T.ps[i].n * s.T.ps[i].bw : Nat) : Int) := by omega
        simp only [e2, decide_false, e_fd, e_nck, e_pkt, e_pkf, e_gdtt, e_gdtf, e_gdft, e_gdff, e_ift, e_iff, e_not, e_ln, e_lnT, e_cp, e_cvi, e_ex20, e_ex21, e_ex30, e_ex31, e_ex32, e_add, e_sub, e_mul, e_quo, e_rem, e_and, e_or, e_xor, e_shl, e_shr, e_eql, e_neq, e_lss, e_leq, e_gtr, e_geq, e_beq, e_bne, e_peq1, e_peq2, e_pne1, e_pne2, e_zeq1, e_zeq2, e_zne1, e_zne2, e_feq1, e_fne1, e_feq2, e_fne2, e_seq, e_sne, e_ta1, e_ta2, Nat.zero_add, Nat.add_zero, Bool.not_true, Bool.not_false]
        exact miss (fun q => h2 q.2)
    · have e0 : ¬ (0 : Int) ≤ (a : Int) - (s.T.ps[i].fst : Int) := by omega
      unfold s18_p3
      simp only [e0, decide_false, e_fd, e_nck, e_pkt, e_pkf, e_gdtt, e_gdtf, e_gdft, e_gdff, e_ift, e_iff, e_not, e_ln, e_lnT, e_cp, e_cvi, e_ex20, e_ex21, e_ex30, e_ex31, e_ex32, e_add, e_sub, e_mul, e_quo, e_rem, e_and, e_or, e_xor, e_shl, e_shr, e_eql, e_neq, e_lss, e_leq, e_gtr, e_geq, e_beq, e_bne, e_peq1, e_peq2, e_pne1, e_pne2, e_zeq1, e_zeq2, e_zne1, e_zne2, e_feq1, e_fne1, e_feq2, e_fne2, e_seq, e_sne, e_ta1, e_ta2, Nat.zero_add, Nat.add_zero, Bool.not_true, Bool.not_false]
      exact miss (fun q => h0 q.1)
  · have hlt' : ¬ ((i : Nat) : Int) < ((M.ps.length : Nat) : Int) := by omega
    simp only [hlt', decide_false, e_fd, e_nck, e_pkt, e_pkf, e_gdtt, e_gdtf, e_gdft, e_gdff, e_ift, e_iff, e_not, e_ln, e_lnT, e_cp, e_cvi, e_ex20, e_ex21, e_ex30, e_ex31, e_ex32, e_add, e_sub, e_mul, e_quo, e_rem, e_and, e_or, e_xor, e_shl, e_shr, e_eql, e_neq, e_lss, e_leq, e_gtr, e_geq, e_beq, e_bne, e_peq1, e_peq2, e_pne1, e_pne2, e_zeq1, e_zeq2, e_zne1, e_zne2, e_feq1, e_fne1, e_feq2, e_fne2, e_seq, e_sne, e_ta1, e_ta2, Nat.zero_add, Nat.add_zero, Bool.not_true, Bool.not_false]
    unfold s18_p1
    have := hK w1 hk1
    unfold ownV at this
    rw [ownI_none (fun sh hsh => by
      obtain ⟨k, hk, rfl⟩ := List.getElem_of_mem hsh
      exact hno k hk (by omega))] at this
    exact this
end
end Go.Proofs.Qxb6500893aDoor
