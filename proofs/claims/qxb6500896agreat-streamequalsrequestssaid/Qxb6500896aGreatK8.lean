import Derived.Test.Qxb6500896aGreatK7
namespace Go.Proofs.Qxb6500896aGreat
open Go.Sh Go.RowKit
set_option linter.unusedVariables false
set_option linter.unusedSimpArgs false

section
variable {M M' S : Nat → Prop} {w w' w1 : World} {v lv sv : Value} {j : Nat} {lob : Option Nat} {J : Jr} {log : List (List Int)} {K : Value → World → Prop} {xs : List Int}
theorem snapshot_ok (h : Jn M w j lob J) (hx : Ai bC 1 M w v xs)
    (hK : ∀ w' lob', Kp (fun b => b = j) w w' → (lob' = lob ∨ lob' = none) → Jn M w' j lob' (snapJ J xs).1 → K (I (snapJ J xs).2) w') : cl Tryz.prog 188 #[P j 0, v] K w := by
  have hxl := hx.len
  obtain ⟨sv, lv, r, hs, hl⟩ := h.ex
  apply c188
  unfold s188_p2
  try simp only [e_fd, e_nck, e_pkt, e_pkf, e_gdtt, e_gdtf, e_gdft, e_gdff, e_ift, e_iff, e_not, e_ln, e_lnT, e_cp, e_cvi, e_ex20, e_ex21, e_ex30, e_ex31, e_ex32, e_add, e_sub, e_mul, e_quo, e_rem, e_and, e_or, e_xor, e_shl, e_shr, e_eql, e_neq, e_lss, e_leq, e_gtr, e_geq, e_beq, e_bne, e_peq1, e_peq2, e_pne1, e_pne2, e_zeq1, e_zeq2, e_zne1, e_zne2, e_feq1, e_fne1, e_feq2, e_fne2, e_seq, e_sne, e_ta1, e_ta2, Nat.zero_add, Nat.add_zero, Bool.not_true, Bool.not_false]
  refine ld1_r r rfl ?_
  unfold snapJ at hK
  cases ho : J.off with
  | true =>
    rw [if_pos ho] at hK
    try simp only [e_fd, e_nck, e_pkt, e_pkf, e_gdtt, e_gdtf, e_gdft, e_gdff, e_ift, e_iff, e_not, e_ln, e_lnT, e_cp, e_cvi, e_ex20, e_ex21, e_ex30, e_ex31, e_ex32, e_add, e_sub, e_mul, e_quo, e_rem, e_and, e_or, e_xor, e_shl, e_shr, e_eql, e_neq, e_lss, e_leq, e_gtr, e_geq, e_beq, e_bne, e_peq1, e_peq2, e_pne1, e_pne2, e_zeq1, e_zeq2, e_zne1, e_zne2, e_feq1, e_fne1, e_feq2, e_fne2, e_seq, e_sne, e_ta1, e_ta2, Nat.zero_add, Nat.add_zero, Bool.not_true, Bool.not_false]
    exact hK w lob (Kp.refl _ _) (.inl rfl) h
  | false =>
    rw [if_neg (show ¬ J.off = true by rw [ho]; simp)] at hK
    try simp only [e_fd, e_nck, e_pkt, e_pkf, e_gdtt, e_gdtf, e_gdft, e_gdff, e_ift, e_iff, e_not, e_ln, e_lnT, e_cp, e_cvi, e_ex20, e_ex21, e_ex30, e_ex31, e_ex32, e_add, e_sub, e_mul, e_quo, e_rem, e_and, e_or, e_xor, e_shl, e_shr, e_eql, e_neq, e_lss, e_leq, e_gtr, e_geq, e_beq, e_bne, e_peq1, e_peq2, e_pne1, e_pne2, e_zeq1, e_zeq2, e_zne1, e_zne2, e_feq1, e_fne1, e_feq2, e_fne2, e_seq, e_sne, e_ta1, e_ta2, Nat.zero_add, Nat.add_zero, Bool.not_true, Bool.not_false]
    refine hx.ln ?_
    try simp only [e_fd, e_nck, e_pkt, e_pkf, e_gdtt, e_gdtf, e_gdft, e_gdff, e_ift, e_iff, e_not, e_ln, e_lnT, e_cp, e_cvi, e_ex20, e_ex21, e_ex30, e_ex31, e_ex32, e_add, e_sub, e_mul, e_quo, e_rem, e_and, e_or, e_xor, e_shl, e_shr, e_eql, e_neq, e_lss, e_leq, e_gtr, e_geq, e_beq, e_bne, e_peq1, e_peq2, e_pne1, e_pne2, e_zeq1, e_zeq2, e_zne1, e_zne2, e_feq1, e_fne1, e_feq2, e_fne2, e_seq, e_sne, e_ta1, e_ta2, Nat.zero_add, Nat.add_zero, Bool.not_true, Bool.not_false]
    refine ld1_r r rfl ?_
    try simp only [e_fd, e_nck, e_pkt, e_pkf, e_gdtt, e_gdtf, e_gdft, e_gdff, e_ift, e_iff, e_not, e_ln, e_lnT, e_cp, e_cvi, e_ex20, e_ex21, e_ex30, e_ex31, e_ex32, e_add, e_sub, e_mul, e_quo, e_rem, e_and, e_or, e_xor, e_shl, e_shr, e_eql, e_neq, e_lss, e_leq, e_gtr, e_geq, e_beq, e_bne, e_peq1, e_peq2, e_pne1, e_pne2, e_zeq1, e_zeq2, e_zne1, e_zne2, e_feq1, e_fne1, e_feq2, e_fne2, e_seq, e_sne, e_ta1, e_ta2, Nat.zero_add, Nat.add_zero, Bool.not_true, Bool.not_false]
    by_cases h1 : J.ms < ((xs.length : Nat) : Int)
    · rw [if_pos h1] at hK
      simp only [h1, decide_true, e_fd, e_nck, e_pkt, e_pkf, e_gdtt, e_gdtf, e_gdft, e_gdff, e_ift, e_iff, e_not, e_ln, e_lnT, e_cp, e_cvi, e_ex20, e_ex21, e_ex30, e_ex31, e_ex32, e_add, e_sub, e_mul, e_quo, e_rem, e_and, e_or, e_xor, e_shl, e_shr, e_eql, e_neq, e_lss, e_leq, e_gtr, e_geq, e_beq, e_bne, e_peq1, e_peq2, e_pne1, e_pne2, e_zeq1, e_zeq2, e_zne1, e_zne2, e_feq1, e_fne1, e_feq2, e_fne2, e_seq, e_sne, e_ta1, e_ta2, Nat.zero_add, Nat.add_zero, Bool.not_true, Bool.not_false]
      exact hK w lob (Kp.refl _ _) (.inl rfl) h
    · rw [if_neg h1] at hK
      simp only [h1, decide_false, e_fd, e_nck, e_pkt, e_pkf, e_gdtt, e_gdtf, e_gdft, e_gdff, e_ift, e_iff, e_not, e_ln, e_lnT, e_cp, e_cvi, e_ex20, e_ex21, e_ex30, e_ex31, e_ex32, e_add, e_sub, e_mul, e_quo, e_rem, e_and, e_or, e_xor, e_shl, e_shr, e_eql, e_neq, e_lss, e_leq, e_gtr, e_geq, e_beq, e_bne, e_peq1, e_peq2, e_pne1, e_pne2, e_zeq1, e_zeq2, e_zne1, e_zne2, e_feq1, e_fne1, e_feq2, e_fne2, e_seq, e_sne, e_ta1, e_ta2, Nat.zero_add, Nat.add_zero, Bool.not_true, Bool.not_false]
      refine due_ok h fun w1 hj1 hk1 hz1 => ?_
      have hx1 : Ai bC 1 M w1 v xs := hx.kp hk1 (fun b (e : b = j) _ => e ▸ h.mj)
      have put : ∀ (b : Bool), (∀ w', Kp (fun b => b = j) w w' → Jn M w' j none { dueJ J with has := true, snap := xs, log := [], safe := 0 } → s188_p1 K (P j 0) (.bool b) w') →
          cl Tryz.prog 126 #[v] (fun t35 w => st1 (P j 3) (.bool true) (fun w => st1 (P j 4) t35 (fun w => st1 (P j 5) nilS (fun w => st1 (P j 6) (.int .i64 0) (fun w => s188_p1 K (P j 0) (.bool b) w) w) w) w) w) w1 := by
        intro b hp
        refine copyOf_ok hx1 fun w2 v2 b2 s2 hn2 hk2 => ?_
        have hj2 := hj1.kp' hk2
        obtain ⟨sv2, lv2, r2, hs2, hl2⟩ := hj2.ex
        have lt2 : ∀ b, M b → b < w1.heap.size := hj1.lt
        refine jst r2 hs2 hl2 hj2.lt h.mj (by decide) rfl fun w3 r3 hs3 hl3 hM3 hk3 hz3 => ?_
        have jlt := hj1.lt j h.mj
        have s3 := s2.kp hk3 (fun b e (q : b = j) => by cases e; have := hn2.1; omega)
        refine st1_r r3 (show 4 < 10 by decide) (sl_scal s2) fun w4 r4 hk4 hz4 => ?_
        have s4 := s3.kp hk4 (fun b e (q : b = j) => by cases e; have := hn2.1; omega)
        refine st1_r r4 (show 5 < 10 by decide) rfl fun w5 r5 hk5 hz5 => ?_
        have s5 := s4.kp hk5 (fun b e (q : b = j) => by cases e; have := hn2.1; omega)
        refine st1_r r5 (show 6 < 10 by decide) rfl fun w6 r6 hk6 hz6 => ?_
        have s6 := s5.kp hk6 (fun b e (q : b = j) => by cases e; have := hn2.1; omega)
        have k6 : Kp (fun b => b = j) w w6 := ((((hk1.trans hk2.none).trans hk3).trans hk4).trans hk5).trans hk6
        refine hp w6 k6 ⟨⟨v2, nilS, r6, s6.ar bC_len hxl (fun b e => ?_), [], ⟨rfl, rfl⟩, (fun b e => by cases e), rfl, (fun i a => by simp at a)⟩, h.mj, ⟨by simp, hj1.ok.l0, hj1.ok.l1, by simp [tot], h.ok.cp, by simp⟩, fun b q => by have := hM3 b q; omega⟩
        cases e
        exact ⟨fun q => by have := lt2 _ q; have := hn2.1; omega, s6.lt⟩
      by_cases hl1 : J.left = 1
      · rw [if_pos hl1] at hK
        rw [decide_eq_true hl1]
        try simp only [e_fd, e_nck, e_pkt, e_pkf, e_gdtt, e_gdtf, e_gdft, e_gdff, e_ift, e_iff, e_not, e_ln, e_lnT, e_cp, e_cvi, e_ex20, e_ex21, e_ex30, e_ex31, e_ex32, e_add, e_sub, e_mul, e_quo, e_rem, e_and, e_or, e_xor, e_shl, e_shr, e_eql, e_neq, e_lss, e_leq, e_gtr, e_geq, e_beq, e_bne, e_peq1, e_peq2, e_pne1, e_pne2, e_zeq1, e_zeq2, e_zne1, e_zne2, e_feq1, e_fne1, e_feq2, e_fne2, e_seq, e_sne, e_ta1, e_ta2, Nat.zero_add, Nat.add_zero, Bool.not_true, Bool.not_false]
        obtain ⟨sv1, lv1, r1, _⟩ := hj1.ex
        refine ld1_r r1 rfl ?_
        try simp only [e_fd, e_nck, e_pkt, e_pkf, e_gdtt, e_gdtf, e_gdft, e_gdff, e_ift, e_iff, e_not, e_ln, e_lnT, e_cp, e_cvi, e_ex20, e_ex21, e_ex30, e_ex31, e_ex32, e_add, e_sub, e_mul, e_quo, e_rem, e_and, e_or, e_xor, e_shl, e_shr, e_eql, e_neq, e_lss, e_leq, e_gtr, e_geq, e_beq, e_bne, e_peq1, e_peq2, e_pne1, e_pne2, e_zeq1, e_zeq2, e_zne1, e_zne2, e_feq1, e_fne1, e_feq2, e_fne2, e_seq, e_sne, e_ta1, e_ta2, Nat.zero_add, Nat.add_zero, Bool.not_true, Bool.not_false]
        refine ⟨by decide, ?_⟩
        by_cases hkp : J.keep.tmod 2 = 1
        · rw [if_pos hkp] at hK
          have e2 : (J.keep.tmod 2 == 1) = true := by rw [hkp]; rfl
          simp only [e2, e_fd, e_nck, e_pkt, e_pkf, e_gdtt, e_gdtf, e_gdft, e_gdff, e_ift, e_iff, e_not, e_ln, e_lnT, e_cp, e_cvi, e_ex20, e_ex21, e_ex30, e_ex31, e_ex32, e_add, e_sub, e_mul, e_quo, e_rem, e_and, e_or, e_xor, e_shl, e_shr, e_eql, e_neq, e_lss, e_leq, e_gtr, e_geq, e_beq, e_bne, e_peq1, e_peq2, e_pne1, e_pne2, e_zeq1, e_zeq2, e_zne1, e_zne2, e_feq1, e_fne1, e_feq2, e_fne2, e_seq, e_sne, e_ta1, e_ta2, Nat.zero_add, Nat.add_zero, Bool.not_true, Bool.not_false]
          refine put true fun w2 hk2 hj2 => ?_
          unfold s188_p1
          try simp only [e_fd, e_nck, e_pkt, e_pkf, e_gdtt, e_gdtf, e_gdft, e_gdff, e_ift, e_iff, e_not, e_ln, e_lnT, e_cp, e_cvi, e_ex20, e_ex21, e_ex30, e_ex31, e_ex32, e_add, e_sub, e_mul, e_quo, e_rem, e_and, e_or, e_xor, e_shl, e_shr, e_eql, e_neq, e_lss, e_leq, e_gtr, e_geq, e_beq, e_bne, e_peq1, e_peq2, e_pne1, e_pne2, e_zeq1, e_zeq2, e_zne1, e_zne2, e_feq1, e_fne1, e_feq2, e_fne2, e_seq, e_sne, e_ta1, e_ta2, Nat.zero_add, Nat.add_zero, Bool.not_true, Bool.not_false]
          obtain ⟨sv2, lv2, r2, _⟩ := hj2.ex
          refine ld1_r r2 rfl ?_
          refine fail_ok hj2 fun w3 h3 hk3 hz3 => ?_
          exact hK w3 none (hk2.trans hk3) (.inr rfl) h3
        · rw [if_neg hkp] at hK
          have e2 : (J.keep.tmod 2 == 1) = false := by rw [beq_eq_false_iff_ne]; exact hkp
          simp only [e2, e_fd, e_nck, e_pkt, e_pkf, e_gdtt, e_gdtf, e_gdft, e_gdff, e_ift, e_iff, e_not, e_ln, e_lnT, e_cp, e_cvi, e_ex20, e_ex21, e_ex30, e_ex31, e_ex32, e_add, e_sub, e_mul, e_quo, e_rem, e_and, e_or, e_xor, e_shl, e_shr, e_eql, e_neq, e_lss, e_leq, e_gtr, e_geq, e_beq, e_bne, e_peq1, e_peq2, e_pne1, e_pne2, e_zeq1, e_zeq2, e_zne1, e_zne2, e_feq1, e_fne1, e_feq2, e_fne2, e_seq, e_sne, e_ta1, e_ta2, Nat.zero_add, Nat.add_zero, Bool.not_true, Bool.not_false]
          unfold s188_p1
          try simp only [e_fd, e_nck, e_pkt, e_pkf, e_gdtt, e_gdtf, e_gdft, e_gdff, e_ift, e_iff, e_not, e_ln, e_lnT, e_cp, e_cvi, e_ex20, e_ex21, e_ex30, e_ex31, e_ex32, e_add, e_sub, e_mul, e_quo, e_rem, e_and, e_or, e_xor, e_shl, e_shr, e_eql, e_neq, e_lss, e_leq, e_gtr, e_geq, e_beq, e_bne, e_peq1, e_peq2, e_pne1, e_pne2, e_zeq1, e_zeq2, e_zne1, e_zne2, e_feq1, e_fne1, e_feq2, e_fne2, e_seq, e_sne, e_ta1, e_ta2, Nat.zero_add, Nat.add_zero, Bool.not_true, Bool.not_false]
          refine ld1_r r1 rfl ?_
          refine fail_ok hj1 fun w3 h3 hk3 hz3 => ?_
          exact hK w3 lob (hk1.trans hk3) (.inl rfl) h3
      · rw [if_neg hl1] at hK
        rw [decide_eq_false hl1]
        try simp only [e_fd, e_nck, e_pkt, e_pkf, e_gdtt, e_gdtf, e_gdft, e_gdff, e_ift, e_iff, e_not, e_ln, e_lnT, e_cp, e_cvi, e_ex20, e_ex21, e_ex30, e_ex31, e_ex32, e_add, e_sub, e_mul, e_quo, e_rem, e_and, e_or, e_xor, e_shl, e_shr, e_eql, e_neq, e_lss, e_leq, e_gtr, e_geq, e_beq, e_bne, e_peq1, e_peq2, e_pne1, e_pne2, e_zeq1, e_zeq2, e_zne1, e_zne2, e_feq1, e_fne1, e_feq2, e_fne2, e_seq, e_sne, e_ta1, e_ta2, Nat.zero_add, Nat.add_zero, Bool.not_true, Bool.not_false]
        refine put false fun w2 hk2 hj2 => ?_
        unfold s188_p1
        try simp only [e_fd, e_nck, e_pkt, e_pkf, e_gdtt, e_gdtf, e_gdft, e_gdff, e_ift, e_iff, e_not, e_ln, e_lnT, e_cp, e_cvi, e_ex20, e_ex21, e_ex30, e_ex31, e_ex32, e_add, e_sub, e_mul, e_quo, e_rem, e_and, e_or, e_xor, e_shl, e_shr, e_eql, e_neq, e_lss, e_leq, e_gtr, e_geq, e_beq, e_bne, e_peq1, e_peq2, e_pne1, e_pne2, e_zeq1, e_zeq2, e_zne1, e_zne2, e_feq1, e_fne1, e_feq2, e_fne2, e_seq, e_sne, e_ta1, e_ta2, Nat.zero_add, Nat.add_zero, Bool.not_true, Bool.not_false]
        exact hK w2 none hk2 (.inr rfl) hj2
/-- a journal that shares no memory -/
theorem clone_ok (h : Jn M w j lob J) (hK : ∀ w' M' j' lob', Ext M M' w w' → Kp Emp w w' → (∀ b, OwnJ j' lob' b → w.heap.size ≤ b) → Jn M' w' j' lob' J → K (P j' 0) w') : cl Tryz.prog 39 #[P j 0] K w := by
  have ok := h.ok
  have ol := ok.len
  obtain ⟨sv, lv, r, hs, hl⟩ := h.ex
  apply c39
  unfold s39_p7
  try simp only [e_fd, e_nck, e_pkt, e_pkf, e_gdtt, e_gdtf, e_gdft, e_gdff, e_ift, e_iff, e_not, e_ln, e_lnT, e_cp, e_cvi, e_ex20, e_ex21, e_ex30, e_ex31, e_ex32, e_add, e_sub, e_mul, e_quo, e_rem, e_and, e_or, e_xor, e_shl, e_shr, e_eql, e_neq, e_lss, e_leq, e_gtr, e_geq, e_beq, e_bne, e_peq1, e_peq2, e_pne1, e_pne2, e_zeq1, e_zeq2, e_zne1, e_zne2, e_feq1, e_fne1, e_feq2, e_fne2, e_seq, e_sne, e_ta1, e_ta2, Nat.zero_add, Nat.add_zero, Bool.not_true, Bool.not_false]
  refine ldn_r r (show 0 + 10 ≤ 10 by decide) ?_
  refine nw_r fun w1 r1 hk1 hz1 => ?_
  have scs : (J.cells sv lv).all scal = true := by
    obtain ⟨evs, s1, _⟩ := hl
    unfold Jr.cells
    simp only [List.all_cons, hs.scal, sl_scal s1]
    rfl
  refine stn_r (cs := J.cells sv lv) r1 rfl (show 0 + 10 ≤ 10 by decide) scs fun w2 r2 hk2 hz2 => ?_
  replace r2 : Row w2 w.heap.size 67 (J.cells sv lv) := r2
  have k2 : Kp Emp w w2 := hk1.then hk2 fun k hk (q : k = _) => by omega
  have j2 := h.kp' k2
  refine ld1_r (k2.row' r) rfl ?_
  refine copyOf_ok (hs.kp' k2) fun w3 v3 b3 s3 hn3 hk3 => ?_
  try simp only [e_fd, e_nck, e_pkt, e_pkf, e_gdtt, e_gdtf, e_gdft, e_gdff, e_ift, e_iff, e_not, e_ln, e_lnT, e_cp, e_cvi, e_ex20, e_ex21, e_ex30, e_ex31, e_ex32, e_add, e_sub, e_mul, e_quo, e_rem, e_and, e_or, e_xor, e_shl, e_shr, e_eql, e_neq, e_lss, e_leq, e_gtr, e_geq, e_beq, e_bne, e_peq1, e_peq2, e_pne1, e_pne2, e_zeq1, e_zeq2, e_zne1, e_zne2, e_feq1, e_fne1, e_feq2, e_fne2, e_seq, e_sne, e_ta1, e_ta2, Nat.zero_add, Nat.add_zero, Bool.not_true, Bool.not_false]
  refine st1_r (hk3.row' r2) (show 4 < 10 by decide) (sl_scal s3) fun w4 r4 hk4 hz4 => ?_
  try simp only [e_fd, e_nck, e_pkt, e_pkf, e_gdtt, e_gdtf, e_gdft, e_gdff, e_ift, e_iff, e_not, e_ln, e_lnT, e_cp, e_cvi, e_ex20, e_ex21, e_ex30, e_ex31, e_ex32, e_add, e_sub, e_mul, e_quo, e_rem, e_and, e_or, e_xor, e_shl, e_shr, e_eql, e_neq, e_lss, e_leq, e_gtr, e_geq, e_beq, e_bne, e_peq1, e_peq2, e_pne1, e_pne2, e_zeq1, e_zeq2, e_zne1, e_zne2, e_feq1, e_fne1, e_feq2, e_fne2, e_seq, e_sne, e_ta1, e_ta2, Nat.zero_add, Nat.add_zero, Bool.not_true, Bool.not_false]
  refine st1_r r4 (show 5 < 10 by decide) rfl fun w5 r5 hk5 hz5 => ?_
  replace r5 : Row w5 w.heap.size 67 (({ J with log := [] } : Jr).cells v3 nilS) := r5
  have k5 : Kp Emp w w5 := ((k2.trans hk3).then hk4 fun k hk (q : k = _) => by omega).then hk5 fun k hk (q : k = _) => by omega
  have s5 := (s3.kp hk4 (fun b e (q : b = _) => by cases e; have := hn3.1; omega)).kp hk5 (fun b e (q : b = _) => by cases e; have := hn3.1; omega)
  have j5 := h.kp' k5
  try simp only [e_fd, e_nck, e_pkt, e_pkf, e_gdtt, e_gdtf, e_gdft, e_gdff, e_ift, e_iff, e_not, e_ln, e_lnT, e_cp, e_cvi, e_ex20, e_ex21, e_ex30, e_ex31, e_ex32, e_add, e_sub, e_mul, e_quo, e_rem, e_and, e_or, e_xor, e_shl, e_shr, e_eql, e_neq, e_lss, e_leq, e_gtr, e_geq, e_beq, e_bne, e_peq1, e_peq2, e_pne1, e_pne2, e_zeq1, e_zeq2, e_zne1, e_zne2, e_feq1, e_fne1, e_feq2, e_fne2, e_seq, e_sne, e_ta1, e_ta2, Nat.zero_add, Nat.add_zero, Bool.not_true, Bool.not_false]
  refine ld1_r (k5.row' r) rfl ?_
  have sz5 := k5.size
  have sz3 := hk3.size
  refine hl.ln ?_
  unfold s39_p6
  have b3lt := hn3.2
  refine loop_n J.log.length (fun i l w' => ∃ lv' lob' M', l = [P w.heap.size 0, lv, I (J.log.length : Nat), I (i : Nat)] ∧ Kp Emp w w' ∧ Ext M M' w w' ∧ M' w.heap.size ∧ (∀ b, M' b → M b ∨ b = w.heap.size ∨ w5.heap.size ≤ b) ∧ (∀ b, lob' = some b → w5.heap.size ≤ b) ∧ w5.heap.size ≤ w'.heap.size ∧ Row w' w.heap.size 67 (({ J with log := J.log.take i } : Jr).cells v3 lv') ∧ Sl bC 1 w' 5 (some b3) v3 J.snap ∧ Lg M' w' lob' lv' (J.log.take i)) ?_ ?_ ?_
  · refine ⟨nilS, none, fun b => M b ∨ b = w.heap.size, rfl, k5, Ext.add h.lt k5 (m := w.heap.size) (Nat.le_refl _) (by omega), .inr rfl, fun b q => q.elim .inl (fun e => .inr (.inl e)), (fun b e => by cases e), Nat.le_refl _, r5, s5, [], ⟨rfl, rfl⟩, (fun b e => by cases e), by simp, (fun i a => by simp at a)⟩
  · rintro i l w6 hi ⟨lv6, lob6, M6, rfl, k6, x6, mj6, mo6, lo6, sz6, r6, s6, hl6⟩ B hB
    rw [s39_p6_Fe]
    unfold s39_p5
    simp only [dlt hi, e_fd, e_nck, e_pkt, e_pkf, e_gdtt, e_gdtf, e_gdft, e_gdff, e_ift, e_iff, e_not, e_ln, e_lnT, e_cp, e_cvi, e_ex20, e_ex21, e_ex30, e_ex31, e_ex32, e_add, e_sub, e_mul, e_quo, e_rem, e_and, e_or, e_xor, e_shl, e_shr, e_eql, e_neq, e_lss, e_leq, e_gtr, e_geq, e_beq, e_bne, e_peq1, e_peq2, e_pne1, e_pne2, e_zeq1, e_zeq2, e_zne1, e_zne2, e_feq1, e_fne1, e_feq2, e_fne2, e_seq, e_sne, e_ta1, e_ta2, Nat.zero_add, Nat.add_zero, Bool.not_true, Bool.not_false]
    unfold s39_p4
    have hlg6 := hl
    obtain ⟨evs, e1, e2, e3, e4⟩ := hl
    have hi2 : i < evs.length := by omega
    refine ((e1.kp' k6).ar (F := fun _ => True) one_len (by omega) (fun _ _ => trivial)).ix hi2 fun b o _ hc => ?_
    refine hc.ld0 rfl ?_
    have he := e4 i hi2 hi
    have hel := he.len
    unfold s39_p3 s39_p3_d
    have kd : Kp Emp w6 (drw w6) := kp_drw
    have szd : (drw w6).heap.size = w6.heap.size := rfl
    generalize drw w6 = w7 at kd szd ⊢
    try simp only [e_fd, e_nck, e_pkt, e_pkf, e_gdtt, e_gdtf, e_gdft, e_gdff, e_ift, e_iff, e_not, e_ln, e_lnT, e_cp, e_cvi, e_ex20, e_ex21, e_ex30, e_ex31, e_ex32, e_add, e_sub, e_mul, e_quo, e_rem, e_and, e_or, e_xor, e_shl, e_shr, e_eql, e_neq, e_lss, e_leq, e_gtr, e_geq, e_beq, e_bne, e_peq1, e_peq2, e_pne1, e_pne2, e_zeq1, e_zeq2, e_zne1, e_zne2, e_feq1, e_fne1, e_feq2, e_fne2, e_seq, e_sne, e_ta1, e_ta2, Nat.zero_add, Nat.add_zero, Bool.not_true, Bool.not_false]
    refine ld1_r (kd.row' r6) rfl ?_
    try simp only [e_fd, e_nck, e_pkt, e_pkf, e_gdtt, e_gdtf, e_gdft, e_gdff, e_ift, e_iff, e_not, e_ln, e_lnT, e_cp, e_cvi, e_ex20, e_ex21, e_ex30, e_ex31, e_ex32, e_add, e_sub, e_mul, e_quo, e_rem, e_and, e_or, e_xor, e_shl, e_shr, e_eql, e_neq, e_lss, e_leq, e_gtr, e_geq, e_beq, e_bne, e_peq1, e_peq2, e_pne1, e_pne2, e_zeq1, e_zeq2, e_zne1, e_zne2, e_feq1, e_fne1, e_feq2, e_fne2, e_seq, e_sne, e_ta1, e_ta2, Nat.zero_add, Nat.add_zero, Bool.not_true, Bool.not_false]
    refine copyOf_ok ((he.kp' k6).kp' kd) fun w8 ev eb se hne hk8 => ⟨hk8.below', ?_⟩
    refine bsq_r (l := [ev]) (fill_one (sl_scal se)) fun w9 r9 hk9 hz9 => ⟨(hk8.trans hk9).below', ?_⟩
    have k69 : Kp Emp w6 w9 := (kd.trans hk8).trans hk9
    have sz69 := k69.size
    have hM9 : ∀ b, M6 b → b < w9.heap.size := fun b q => by have := x6.lt b q; omega
    have hl9 : Lg M6 w9 lob6 lv6 (J.log.take i) := hl6.ext (Ext.same x6.lt k69) k69 (fun _ q => q.elim) (fun _ _ q => q)
    refine Lg.app hl9 hM9 (by rw [List.length_take]; omega) (se.kp' hk9) hel (fun q => by have := x6.lt _ q; have := hne.1; omega) r9 fun w10 lv10 lob10 hx10 hk10 ho10 hl10 => ?_
    have nej : ¬ lob6 = some w.heap.size := fun e => by have := lo6 _ e; omega
    have neb : ¬ lob6 = some b3 := fun e => by have := lo6 _ e; omega
    have r10 := hk10.row (k69.row' r6) nej
    refine st1_r r10 (show 5 < 10 by decide) (by obtain ⟨evs, s1, _⟩ := hl10; exact sl_scal s1) fun w11 r11 hk11 hz11 => ?_
    have hx11 : Ext (fun b => M6 b ∨ lob10 = some b) (fun b => M6 b ∨ lob10 = some b) w10 w11 := Ext.same hx10.lt hk11
    have lo10 : ∀ b, lob10 = some b → w5.heap.size ≤ b := fun b e => by
      rcases ho10 with q | ⟨b', q, hb'⟩
      · exact lo6 b (q ▸ e)
      · rw [q] at e; cases e; omega
    unfold s39_p2
    try simp only [e_fd, e_nck, e_pkt, e_pkf, e_gdtt, e_gdtf, e_gdft, e_gdff, e_ift, e_iff, e_not, e_ln, e_lnT, e_cp, e_cvi, e_ex20, e_ex21, e_ex30, e_ex31, e_ex32, e_add, e_sub, e_mul, e_quo, e_rem, e_and, e_or, e_xor, e_shl, e_shr, e_eql, e_neq, e_lss, e_leq, e_gtr, e_geq, e_beq, e_bne, e_peq1, e_peq2, e_pne1, e_pne2, e_zeq1, e_zeq2, e_zne1, e_zne2, e_feq1, e_fne1, e_feq2, e_fne2, e_seq, e_sne, e_ta1, e_ta2, Nat.zero_add, Nat.add_zero, Bool.not_true, Bool.not_false]
    rw [inc i (by omega)]
    have etk : J.log.take i ++ [J.log[i]] = J.log.take (i + 1) := (List.take_succ_eq_append_getElem hi).symm
    rw [etk] at hl10
    refine hB _ _ ⟨lv10, lob10, fun b => M6 b ∨ lob10 = some b, rfl, ((k6.trans k69).then hk10 (fun k hk q => by have := lo6 _ q; omega)).then hk11 (fun k hk (q : k = _) => by omega), (x6.trans (Ext.same x6.lt k69)).trans (hx10.trans hx11), .inl mj6, fun b q => ?_, lo10, by have := hk10.size; omega, r11, ((s6.kp' k69).kp hk10 (fun b e q => by cases e; exact neb q)).kp hk11 (fun b e (q : b = _) => by cases e; have := hn3.1; omega), hl10.ext hx11 hk11 (fun b (e : b = _) _ => .inl (e ▸ mj6)) (fun b e (q : b = _) => by have := lo10 b e; omega)⟩
    rcases q with q | q
    · exact mo6 b q
    · exact .inr (.inr (lo10 b q))
  · rintro l w6 ⟨lv6, lob6, M6, rfl, k6, x6, mj6, mo6, lo6, sz6, r6, s6, hl6⟩ B
    rw [s39_p6_Fe]
    unfold s39_p5
    simp only [dnlt, e_fd, e_nck, e_pkt, e_pkf, e_gdtt, e_gdtf, e_gdft, e_gdff, e_ift, e_iff, e_not, e_ln, e_lnT, e_cp, e_cvi, e_ex20, e_ex21, e_ex30, e_ex31, e_ex32, e_add, e_sub, e_mul, e_quo, e_rem, e_and, e_or, e_xor, e_shl, e_shr, e_eql, e_neq, e_lss, e_leq, e_gtr, e_geq, e_beq, e_bne, e_peq1, e_peq2, e_pne1, e_pne2, e_zeq1, e_zeq2, e_zne1, e_zne2, e_feq1, e_fne1, e_feq2, e_fne2, e_seq, e_sne, e_ta1, e_ta2, Nat.zero_add, Nat.add_zero, Bool.not_true, Bool.not_false]
    unfold s39_p1
    rw [List.take_length] at r6 hl6
    have hs6 : Ai bC 1 M6 w6 v3 J.snap := s6.ar bC_len hs.len (fun b e => by
      cases e
      refine ⟨fun q => ?_, s6.lt⟩
      rcases mo6 _ q with q | q | q
      · have := h.lt _ q; have := hn3.1; omega
      · have := hn3.1; omega
      · omega)
    exact hK w6 M6 w.heap.size lob6 x6 k6 (fun b q => q.elim (fun e => by omega) (fun e => by have := lo6 b e; omega)) ⟨⟨v3, lv6, r6, hs6, hl6⟩, mj6, ok, x6.lt⟩
end
end Go.Proofs.Qxb6500896aGreat
