import Derived.Test.Qxb6500894aE7
namespace Go.Proofs.Qxb6500894a
open Go.Sh Go.RowKit
set_option linter.unusedVariables false
set_option linter.unusedSimpArgs false

/-- the first items of a slice -/
theorem slTake {w : World} {ob : Option Nat} {v : Value} {xs : List Vc} {K : Value → World → Prop} (h : Sl Vc.cells 8 w 49 ob v xs) (hl : 12 < xs.length) (hK : ∀ v', Sl Vc.cells 8 w 49 ob v' (xs.take 12) → K v' w) : sls 8 v none (some (.int .i64 12)) K w := by
  cases ob with
  | none => obtain ⟨rfl, rfl⟩ := h; simp at hl
  | some b =>
    obtain ⟨cap, junk, rfl, h2, h3, h4⟩ := h
    refine ⟨⟨by omega, by omega, by show (12 : Int) ≤ (cap : Int); omega⟩, ?_⟩
    have e1 : (if cap = ((0 : Nat) : Int).toNat then (some (⟨b, 0, none⟩ : Addr)) else (some (⟨b, 0, none⟩ : Addr)).map (·.add (((0 : Nat) : Int).toNat * 8))) = some ⟨b, 0, none⟩ := by
      split
      · rfl
      · show some ((⟨b, 0, none⟩ : Addr).add (0 * 8)) = _; rw [add_mk]
    rw [e1]
    refine hK _ ⟨cap, rows Vc.cells (xs.drop 12) ++ junk, ?_, ?_, ?_, ?_⟩
    · have : (xs.take 12).length = 12 := by simp; omega
      rw [this]; rfl
    · simp; omega
    · have q := rows_length Vc.cells_length (xs.drop 12)
      rw [List.length_append, q, h3, List.length_drop, List.length_take]
      have : min 12 xs.length = 12 := by omega
      rw [this, ← Nat.add_mul]
      congr 1
      omega
    · rw [← List.append_assoc, ← rows_append, List.take_append_drop]; exact h4

section
variable {W w0 w : World} {F : Nat} {K : Value → World → Prop} {B1 B2 : List Value → World → Prop} {t11 t12 t13 t5 : Value} {ob : Option Nat} {vs : List Vc}

theorem ev_row {i : Nat} (hb : Below W.heap.size W w0) (hs : Sl Vc.cells 8 w0 49 ob t5 vs) (hv : ∀ x ∈ vs, VOk W F x) (hn : vs.length ≤ 1000000) (hi : i < vs.length) (hw : Kp (fun _ => False) w0 w)
    (hK : ∀ w', Kp (fun _ => False) w0 w' → s3_p3 K B1 B2 t5 t11 t12 t13 (I vs.length) (I i) w') :
    s3_p9 K B1 B2 t5 (I i) t11 t12 t13 (I vs.length) (I i) (I vs.length) (I 0) w := by
  refine ⟨fun m l w' => ∃ j : Nat, j ≤ vs.length ∧ m = vs.length - j ∧ l = [t5, I i, t11, t12, t13, I vs.length, I i, I vs.length, I j] ∧ Kp (fun _ => False) w0 w',
    vs.length, ⟨0, by omega, by omega, rfl, hw⟩, ?_⟩
  rintro m l w1 ⟨j, hj, hm, rfl, hk1⟩
  rw [s3_p9_Fe]
  unfold s3_p8
  simp only [e_fd, e_nck, e_pkt, e_pkf, e_gdtt, e_gdtf, e_gdft, e_gdff, e_ift, e_iff, e_not, e_ln, e_lnT, e_cp, e_cvi, e_ex20, e_ex21, e_ex30, e_ex31, e_ex32, e_add, e_sub, e_mul, e_quo, e_rem, e_and, e_or, e_xor, e_shl, e_shr, e_eql, e_neq, e_lss, e_leq, e_gtr, e_geq, e_beq, e_bne, e_peq1, e_peq2, e_pne1, e_pne2, e_zeq1, e_zeq2, e_zne1, e_zne2, e_feq1, e_fne1, e_feq2, e_fne2, e_seq, e_sne, e_ta1, e_ta2, Nat.zero_add, Nat.add_zero, Bool.not_true, Bool.not_false]
  by_cases hlt : j < vs.length
  · have hlt' : (j : Int) < (vs.length : Int) := by omega
    simp only [hlt', decide_true, e_fd, e_nck, e_pkt, e_pkf, e_gdtt, e_gdtf, e_gdft, e_gdff, e_ift, e_iff, e_not, e_ln, e_lnT, e_cp, e_cvi, e_ex20, e_ex21, e_ex30, e_ex31, e_ex32, e_add, e_sub, e_mul, e_quo, e_rem, e_and, e_or, e_xor, e_shl, e_shr, e_eql, e_neq, e_lss, e_leq, e_gtr, e_geq, e_beq, e_bne, e_peq1, e_peq2, e_pne1, e_pne2, e_zeq1, e_zeq2, e_zne1, e_zne2, e_feq1, e_fne1, e_feq2, e_fne2, e_seq, e_sne, e_ta1, e_ta2, Nat.zero_add, Nat.add_zero, Bool.not_true, Bool.not_false]
    unfold s3_p7 s3_p6 s3_p6_d
    have hkd : Kp (fun _ => False) w0 (drw w1) := hk1.trans kp_drw
    have hbd : Below W.heap.size W (drw w1) := hb.trans (hkd.below hb.size (fun _ _ h => h))
    have hsd := hs.kp' hkd
    refine hsd.ix Vc.cells_length hi fun b1 l1 _ hr1 _ hl1 e1 => ?_
    refine hsd.ix Vc.cells_length hlt fun b2 l2 _ hr2 _ hl2 e2 => ?_
    refine hsd.ix Vc.cells_length hi fun b3 l3 _ hr3 _ hl3 e3 => ?_
    refine ldn_r hr3 hl3 ?_
    rw [e3]
    refine hsd.ix Vc.cells_length hlt fun b4 l4 _ hr4 _ hl4 e4 => ?_
    refine ldn_r hr4 hl4 ?_
    rw [e4]
    have c1 := Row.cells hr1 hl1
    rw [e1] at c1
    have c2 := Row.cells hr2 hl2
    rw [e2] at c2
    have hx := hv _ (List.getElem_mem hi)
    have hy := hv _ (List.getElem_mem hlt)
    refine ev_ok F _ _ hx hy (drw w1) b1 (i * 8) b2 (j * 8) _ hbd c1 c2 fun w2 hk2 => ⟨hk2.below', ?_⟩
    have hb2 : Below W.heap.size W w2 := hbd.trans (hk2.below hbd.size (fun _ _ h => h))
    refine sv_ok F _ _ hx hy w2 _ hb2 fun w3 hk3 => ?_
    have ee : (!(veq W F vs[i] vs[j] == veq W F vs[i] vs[j])) = false := by simp
    simp only [e_fd, e_nck, e_pkt, e_pkf, e_gdtt, e_gdtf, e_gdft, e_gdff, e_ift, e_iff, e_not, e_ln, e_lnT, e_cp, e_cvi, e_ex20, e_ex21, e_ex30, e_ex31, e_ex32, e_add, e_sub, e_mul, e_quo, e_rem, e_and, e_or, e_xor, e_shl, e_shr, e_eql, e_neq, e_lss, e_leq, e_gtr, e_geq, e_beq, e_bne, e_peq1, e_peq2, e_pne1, e_pne2, e_zeq1, e_zeq2, e_zne1, e_zne2, e_feq1, e_fne1, e_feq2, e_fne2, e_seq, e_sne, e_ta1, e_ta2, Nat.zero_add, Nat.add_zero, Bool.not_true, Bool.not_false, ee]
    unfold s3_p5
    simp only [e_fd, e_nck, e_pkt, e_pkf, e_gdtt, e_gdtf, e_gdft, e_gdff, e_ift, e_iff, e_not, e_ln, e_lnT, e_cp, e_cvi, e_ex20, e_ex21, e_ex30, e_ex31, e_ex32, e_add, e_sub, e_mul, e_quo, e_rem, e_and, e_or, e_xor, e_shl, e_shr, e_eql, e_neq, e_lss, e_leq, e_gtr, e_geq, e_beq, e_bne, e_peq1, e_peq2, e_pne1, e_pne2, e_zeq1, e_zeq2, e_zne1, e_zne2, e_feq1, e_fne1, e_feq2, e_fne2, e_seq, e_sne, e_ta1, e_ta2, Nat.zero_add, Nat.add_zero, Bool.not_true, Bool.not_false]
    unfold s3_p4
    simp only [e_fd, e_nck, e_pkt, e_pkf, e_gdtt, e_gdtf, e_gdft, e_gdff, e_ift, e_iff, e_not, e_ln, e_lnT, e_cp, e_cvi, e_ex20, e_ex21, e_ex30, e_ex31, e_ex32, e_add, e_sub, e_mul, e_quo, e_rem, e_and, e_or, e_xor, e_shl, e_shr, e_eql, e_neq, e_lss, e_leq, e_gtr, e_geq, e_beq, e_bne, e_peq1, e_peq2, e_pne1, e_pne2, e_zeq1, e_zeq2, e_zne1, e_zne2, e_feq1, e_fne1, e_feq2, e_fne2, e_seq, e_sne, e_ta1, e_ta2, Nat.zero_add, Nat.add_zero, Bool.not_true, Bool.not_false]
    rw [wrap64_id (by omega) (by omega)]
    exact ⟨vs.length - (j + 1), by omega, j + 1, by omega, rfl, by simp, (hkd.trans hk2).trans hk3⟩
  · have hlt' : ¬ (j : Int) < (vs.length : Int) := by omega
    simp only [hlt', decide_false, e_fd, e_nck, e_pkt, e_pkf, e_gdtt, e_gdtf, e_gdft, e_gdff, e_ift, e_iff, e_not, e_ln, e_lnT, e_cp, e_cvi, e_ex20, e_ex21, e_ex30, e_ex31, e_ex32, e_add, e_sub, e_mul, e_quo, e_rem, e_and, e_or, e_xor, e_shl, e_shr, e_eql, e_neq, e_lss, e_leq, e_gtr, e_geq, e_beq, e_bne, e_peq1, e_peq2, e_pne1, e_pne2, e_zeq1, e_zeq2, e_zne1, e_zne2, e_feq1, e_fne1, e_feq2, e_fne2, e_seq, e_sne, e_ta1, e_ta2, Nat.zero_add, Nat.add_zero, Bool.not_true, Bool.not_false]
    exact hK w1 hk1

theorem ev_pairs (hb : Below W.heap.size W w0) (hs : Sl Vc.cells 8 w0 49 ob t5 vs) (hv : ∀ x ∈ vs, VOk W F x) (hn : vs.length ≤ 1000000)
    (hK : ∀ w', Kp (fun _ => False) w0 w' → s3_p2 K B1 t11 t12 t13 w') : s3_p13 K B1 t5 t11 t12 t13 w0 := by
  unfold s3_p13
  refine hs.ln ?_
  refine ⟨fun m l w' => ∃ i : Nat, i ≤ vs.length ∧ m = vs.length - i ∧ l = [t5, t11, t12, t13, I vs.length, I i] ∧ Kp (fun _ => False) w0 w',
    vs.length, ⟨0, by omega, by omega, rfl, Kp.refl _ _⟩, ?_⟩
  rintro m l w1 ⟨i, hi, hm, rfl, hk1⟩
  rw [s3_p12_Fe]
  unfold s3_p11
  simp only [e_fd, e_nck, e_pkt, e_pkf, e_gdtt, e_gdtf, e_gdft, e_gdff, e_ift, e_iff, e_not, e_ln, e_lnT, e_cp, e_cvi, e_ex20, e_ex21, e_ex30, e_ex31, e_ex32, e_add, e_sub, e_mul, e_quo, e_rem, e_and, e_or, e_xor, e_shl, e_shr, e_eql, e_neq, e_lss, e_leq, e_gtr, e_geq, e_beq, e_bne, e_peq1, e_peq2, e_pne1, e_pne2, e_zeq1, e_zeq2, e_zne1, e_zne2, e_feq1, e_fne1, e_feq2, e_fne2, e_seq, e_sne, e_ta1, e_ta2, Nat.zero_add, Nat.add_zero, Bool.not_true, Bool.not_false]
  by_cases hlt : i < vs.length
  · have hlt' : (i : Int) < (vs.length : Int) := by omega
    simp only [hlt', decide_true, e_fd, e_nck, e_pkt, e_pkf, e_gdtt, e_gdtf, e_gdft, e_gdff, e_ift, e_iff, e_not, e_ln, e_lnT, e_cp, e_cvi, e_ex20, e_ex21, e_ex30, e_ex31, e_ex32, e_add, e_sub, e_mul, e_quo, e_rem, e_and, e_or, e_xor, e_shl, e_shr, e_eql, e_neq, e_lss, e_leq, e_gtr, e_geq, e_beq, e_bne, e_peq1, e_peq2, e_pne1, e_pne2, e_zeq1, e_zeq2, e_zne1, e_zne2, e_feq1, e_fne1, e_feq2, e_fne2, e_seq, e_sne, e_ta1, e_ta2, Nat.zero_add, Nat.add_zero, Bool.not_true, Bool.not_false]
    unfold s3_p10
    refine (hs.kp' hk1).ln ?_
    refine ev_row hb hs hv hn hlt hk1 fun w2 hk2 => ?_
    unfold s3_p3
    simp only [e_fd, e_nck, e_pkt, e_pkf, e_gdtt, e_gdtf, e_gdft, e_gdff, e_ift, e_iff, e_not, e_ln, e_lnT, e_cp, e_cvi, e_ex20, e_ex21, e_ex30, e_ex31, e_ex32, e_add, e_sub, e_mul, e_quo, e_rem, e_and, e_or, e_xor, e_shl, e_shr, e_eql, e_neq, e_lss, e_leq, e_gtr, e_geq, e_beq, e_bne, e_peq1, e_peq2, e_pne1, e_pne2, e_zeq1, e_zeq2, e_zne1, e_zne2, e_feq1, e_fne1, e_feq2, e_fne2, e_seq, e_sne, e_ta1, e_ta2, Nat.zero_add, Nat.add_zero, Bool.not_true, Bool.not_false]
    rw [wrap64_id (by omega) (by omega)]
    exact ⟨vs.length - (i + 1), by omega, i + 1, by omega, rfl, by simp, hk2⟩
  · have hlt' : ¬ (i : Int) < (vs.length : Int) := by omega
    simp only [hlt', decide_false, e_fd, e_nck, e_pkt, e_pkf, e_gdtt, e_gdtf, e_gdft, e_gdff, e_ift, e_iff, e_not, e_ln, e_lnT, e_cp, e_cvi, e_ex20, e_ex21, e_ex30, e_ex31, e_ex32, e_add, e_sub, e_mul, e_quo, e_rem, e_and, e_or, e_xor, e_shl, e_shr, e_eql, e_neq, e_lss, e_leq, e_gtr, e_geq, e_beq, e_bne, e_peq1, e_peq2, e_pne1, e_pne2, e_zeq1, e_zeq2, e_zne1, e_zne2, e_feq1, e_fne1, e_feq2, e_fne2, e_seq, e_sne, e_ta1, e_ta2, Nat.zero_add, Nat.add_zero, Bool.not_true, Bool.not_false]
    exact hK w1 hk1
end

theorem ev_law {W : World} {F : Nat} {v : Value} {xs : List Rc} (hs : Scr W F v xs) : cl Try.prog 3 #[v] (fun r w' => r = .bool true ∧ Below W.heap.size W w') W := by
  have hxn := hs.len
  apply c3
  unfold s3_p17
  refine small_ok hs (Below.refl _ _) fun w1 r hk1 hr => ?_
  have hb1 : Below W.heap.size W w1 := hk1.below'
  simp only [e_fd, e_nck, e_pkt, e_pkf, e_gdtt, e_gdtf, e_gdft, e_gdff, e_ift, e_iff, e_not, e_ln, e_lnT, e_cp, e_cvi, e_ex20, e_ex21, e_ex30, e_ex31, e_ex32, e_add, e_sub, e_mul, e_quo, e_rem, e_and, e_or, e_xor, e_shl, e_shr, e_eql, e_neq, e_lss, e_leq, e_gtr, e_geq, e_beq, e_bne, e_peq1, e_peq2, e_pne1, e_pne2, e_zeq1, e_zeq2, e_zne1, e_zne2, e_feq1, e_fne1, e_feq2, e_fne2, e_seq, e_sne, e_ta1, e_ta2, Nat.zero_add, Nat.add_zero, Bool.not_true, Bool.not_false]
  cases r with
  | false =>
    simp only [Bool.not_false, e_fd, e_nck, e_pkt, e_pkf, e_gdtt, e_gdtf, e_gdft, e_gdff, e_ift, e_iff, e_not, e_ln, e_lnT, e_cp, e_cvi, e_ex20, e_ex21, e_ex30, e_ex31, e_ex32, e_add, e_sub, e_mul, e_quo, e_rem, e_and, e_or, e_xor, e_shl, e_shr, e_eql, e_neq, e_lss, e_leq, e_gtr, e_geq, e_beq, e_bne, e_peq1, e_peq2, e_pne1, e_pne2, e_zeq1, e_zeq2, e_zne1, e_zne2, e_feq1, e_fne1, e_feq2, e_fne2, e_seq, e_sne, e_ta1, e_ta2, Nat.zero_add, Nat.add_zero, Bool.not_true, Bool.not_false]
    exact ⟨trivial, hb1⟩
  | true =>
    have hr := hr rfl
    simp only [Bool.not_true, e_fd, e_nck, e_pkt, e_pkf, e_gdtt, e_gdtf, e_gdft, e_gdff, e_ift, e_iff, e_not, e_ln, e_lnT, e_cp, e_cvi, e_ex20, e_ex21, e_ex30, e_ex31, e_ex32, e_add, e_sub, e_mul, e_quo, e_rem, e_and, e_or, e_xor, e_shl, e_shr, e_eql, e_neq, e_lss, e_leq, e_gtr, e_geq, e_beq, e_bne, e_peq1, e_peq2, e_pne1, e_pne2, e_zeq1, e_zeq2, e_zne1, e_zne2, e_feq1, e_fne1, e_feq2, e_fne2, e_seq, e_sne, e_ta1, e_ta2, Nat.zero_add, Nat.add_zero, Bool.not_true, Bool.not_false]
    refine hs.ln ?_
    refine ⟨fun m l w' => ∃ i : Nat, i ≤ xs.length ∧ m = xs.length - i ∧ l = [v, I xs.length, I i] ∧ Kp (fun _ => False) w1 w',
      xs.length, ⟨0, by omega, by omega, rfl, Kp.refl _ _⟩, ?_⟩
    rintro m l w2 ⟨i, hi, hm, rfl, hk2⟩
    rw [s3_p16_Fe]
    have hb2 : Below W.heap.size W w2 := hb1.trans (hk2.below hb1.size (fun _ _ h => h))
    unfold s3_p15
    simp only [e_fd, e_nck, e_pkt, e_pkf, e_gdtt, e_gdtf, e_gdft, e_gdff, e_ift, e_iff, e_not, e_ln, e_lnT, e_cp, e_cvi, e_ex20, e_ex21, e_ex30, e_ex31, e_ex32, e_add, e_sub, e_mul, e_quo, e_rem, e_and, e_or, e_xor, e_shl, e_shr, e_eql, e_neq, e_lss, e_leq, e_gtr, e_geq, e_beq, e_bne, e_peq1, e_peq2, e_pne1, e_pne2, e_zeq1, e_zeq2, e_zne1, e_zne2, e_feq1, e_fne1, e_feq2, e_fne2, e_seq, e_sne, e_ta1, e_ta2, Nat.zero_add, Nat.add_zero, Bool.not_true, Bool.not_false]
    by_cases hlt : i < xs.length
    · have hlt' : (i : Int) < (xs.length : Int) := by omega
      simp only [hlt', decide_true, e_fd, e_nck, e_pkt, e_pkf, e_gdtt, e_gdtf, e_gdft, e_gdff, e_ift, e_iff, e_not, e_ln, e_lnT, e_cp, e_cvi, e_ex20, e_ex21, e_ex30, e_ex31, e_ex32, e_add, e_sub, e_mul, e_quo, e_rem, e_and, e_or, e_xor, e_shl, e_shr, e_eql, e_neq, e_lss, e_leq, e_gtr, e_geq, e_beq, e_bne, e_peq1, e_peq2, e_pne1, e_pne2, e_zeq1, e_zeq2, e_zne1, e_zne2, e_feq1, e_fne1, e_feq2, e_fne2, e_seq, e_sne, e_ta1, e_ta2, Nat.zero_add, Nat.add_zero, Bool.not_true, Bool.not_false]
      have hx := hs.1 _ (List.getElem_mem hlt)
      have hvl := hr _ (List.getElem_mem hlt)
      unfold s3_p14
      refine hs.ix hlt fun b o hc => ?_
      refine (hc.below hb2).ldn hx.len ?_
      refine nw_r fun w3 r3 hb3 hz3 => ?_
      refine stn_r r3 hx.len (Nat.le_of_ble_eq_true rfl) hx.sc fun w4 r4 hb4 hz4 => ?_
      have e4 : List.take 0 (#[(.int .i64 0), (.int .i64 0), (.int .u32 0), (.int .i64 0), (.int .u8 0), (.int .i64 0), (.int .i64 0), (.int .i64 0), (.int .i64 0), (.string ⟨#[]⟩), (.string ⟨#[]⟩), (.slice none 0 0), (.string ⟨#[]⟩), (.string ⟨#[]⟩), (.string ⟨#[]⟩), (.string ⟨#[]⟩), (.string ⟨#[]⟩), (.slice none 0 0), (.int .u8 0), (.slice none 0 0)] : Array Value).toList ++ (xs[i].cs ++ List.drop (0 + 20) (#[(.int .i64 0), (.int .i64 0), (.int .u32 0), (.int .i64 0), (.int .u8 0), (.int .i64 0), (.int .i64 0), (.int .i64 0), (.int .i64 0), (.string ⟨#[]⟩), (.string ⟨#[]⟩), (.slice none 0 0), (.string ⟨#[]⟩), (.string ⟨#[]⟩), (.string ⟨#[]⟩), (.string ⟨#[]⟩), (.string ⟨#[]⟩), (.slice none 0 0), (.int .u8 0), (.slice none 0 0)] : Array Value).toList) = xs[i].cs := by
        show [] ++ (xs[i].cs ++ []) = xs[i].cs
        simp
      rw [e4] at r4
      have k4 : Kp (fun _ => False) w2 w4 := hb3.then hb4 (by intro y hy (e : y = _); omega)
      simp only [e_fd, e_nck, e_pkt, e_pkf, e_gdtt, e_gdtf, e_gdft, e_gdff, e_ift, e_iff, e_not, e_ln, e_lnT, e_cp, e_cvi, e_ex20, e_ex21, e_ex30, e_ex31, e_ex32, e_add, e_sub, e_mul, e_quo, e_rem, e_and, e_or, e_xor, e_shl, e_shr, e_eql, e_neq, e_lss, e_leq, e_gtr, e_geq, e_beq, e_bne, e_peq1, e_peq2, e_pne1, e_pne2, e_zeq1, e_zeq2, e_zne1, e_zne2, e_feq1, e_fne1, e_feq2, e_fne2, e_seq, e_sne, e_ta1, e_ta2, Nat.zero_add, Nat.add_zero, Bool.not_true, Bool.not_false]
      have hlen := hx.len
      refine ldn_r r4 (by omega) ?_
      have hb4' : Below W.heap.size W w4 := hb2.trans (k4.below hb2.size (fun _ _ h => h))
      refine values_ok (F := F) (pv := xs[i].pv) (ps := xs[i].ps) hb4' (by rw [List.length_take, List.length_drop]; omega) (by
        rw [List.getElem?_take_of_lt (by omega), List.getElem?_drop]; exact hx.c17) hx.pr (fun p hp => (hx.pz p hp).2) (by omega) fun w5 v5 ob5 hs5 hk5 _ => ?_
      have hvok : ∀ x ∈ vals W F xs[i].ps, VOk W F x := by
        intro x hxm
        obtain ⟨p, hp, hxp⟩ := List.mem_flatMap.1 hxm
        exact wl_ok (hx.pz p hp).2 x hxp
      have k5 := (hk2.trans k4).trans hk5
      have hb5 : Below W.heap.size W w5 := hb4'.trans (hk5.below hb4'.size (fun _ _ h => h))
      have next : ∀ w', Kp (fun _ => False) w5 w' → s3_p2 (fun r w' => r = .bool true ∧ Below W.heap.size W w') (fun l' w' => ∃ m', m' < m ∧ ∃ i : Nat, i ≤ xs.length ∧ m' = xs.length - i ∧ l' = [v, I xs.length, I i] ∧ Kp (fun _ => False) w1 w') v (I xs.length) (I i) w' := by
        intro w' hw'
        unfold s3_p2
        simp only [e_fd, e_nck, e_pkt, e_pkf, e_gdtt, e_gdtf, e_gdft, e_gdff, e_ift, e_iff, e_not, e_ln, e_lnT, e_cp, e_cvi, e_ex20, e_ex21, e_ex30, e_ex31, e_ex32, e_add, e_sub, e_mul, e_quo, e_rem, e_and, e_or, e_xor, e_shl, e_shr, e_eql, e_neq, e_lss, e_leq, e_gtr, e_geq, e_beq, e_bne, e_peq1, e_peq2, e_pne1, e_pne2, e_zeq1, e_zeq2, e_zne1, e_zne2, e_feq1, e_fne1, e_feq2, e_fne2, e_seq, e_sne, e_ta1, e_ta2, Nat.zero_add, Nat.add_zero, Bool.not_true, Bool.not_false]
        rw [wrap64_id (by omega) (by omega)]
        exact ⟨xs.length - (i + 1), by omega, i + 1, by omega, rfl, by simp, k5.trans hw'⟩
      refine hs5.ln ?_
      simp only [e_fd, e_nck, e_pkt, e_pkf, e_gdtt, e_gdtf, e_gdft, e_gdff, e_ift, e_iff, e_not, e_ln, e_lnT, e_cp, e_cvi, e_ex20, e_ex21, e_ex30, e_ex31, e_ex32, e_add, e_sub, e_mul, e_quo, e_rem, e_and, e_or, e_xor, e_shl, e_shr, e_eql, e_neq, e_lss, e_leq, e_gtr, e_geq, e_beq, e_bne, e_peq1, e_peq2, e_pne1, e_pne2, e_zeq1, e_zeq2, e_zne1, e_zne2, e_feq1, e_fne1, e_feq2, e_fne2, e_seq, e_sne, e_ta1, e_ta2, Nat.zero_add, Nat.add_zero, Bool.not_true, Bool.not_false]
      by_cases h12 : 12 < ((vals W F xs[i].ps).length : Int)
      · simp only [h12, decide_true, e_fd, e_nck, e_pkt, e_pkf, e_gdtt, e_gdtf, e_gdft, e_gdff, e_ift, e_iff, e_not, e_ln, e_lnT, e_cp, e_cvi, e_ex20, e_ex21, e_ex30, e_ex31, e_ex32, e_add, e_sub, e_mul, e_quo, e_rem, e_and, e_or, e_xor, e_shl, e_shr, e_eql, e_neq, e_lss, e_leq, e_gtr, e_geq, e_beq, e_bne, e_peq1, e_peq2, e_pne1, e_pne2, e_zeq1, e_zeq2, e_zne1, e_zne2, e_feq1, e_fne1, e_feq2, e_fne2, e_seq, e_sne, e_ta1, e_ta2, Nat.zero_add, Nat.add_zero, Bool.not_true, Bool.not_false]
        refine slTake hs5 (by omega) fun v' hs' => ?_
        exact ev_pairs hb5 hs' (fun x hx => hvok x (List.mem_of_mem_take hx)) (by rw [List.length_take]; omega) next
      · simp only [h12, decide_false, e_fd, e_nck, e_pkt, e_pkf, e_gdtt, e_gdtf, e_gdft, e_gdff, e_ift, e_iff, e_not, e_ln, e_lnT, e_cp, e_cvi, e_ex20, e_ex21, e_ex30, e_ex31, e_ex32, e_add, e_sub, e_mul, e_quo, e_rem, e_and, e_or, e_xor, e_shl, e_shr, e_eql, e_neq, e_lss, e_leq, e_gtr, e_geq, e_beq, e_bne, e_peq1, e_peq2, e_pne1, e_pne2, e_zeq1, e_zeq2, e_zne1, e_zne2, e_feq1, e_fne1, e_feq2, e_fne2, e_seq, e_sne, e_ta1, e_ta2, Nat.zero_add, Nat.add_zero, Bool.not_true, Bool.not_false]
        exact ev_pairs hb5 hs5 hvok (by omega) next
    · have hlt' : ¬ (i : Int) < (xs.length : Int) := by omega
      simp only [hlt', decide_false, e_fd, e_nck, e_pkt, e_pkf, e_gdtt, e_gdtf, e_gdft, e_gdff, e_ift, e_iff, e_not, e_ln, e_lnT, e_cp, e_cvi, e_ex20, e_ex21, e_ex30, e_ex31, e_ex32, e_add, e_sub, e_mul, e_quo, e_rem, e_and, e_or, e_xor, e_shl, e_shr, e_eql, e_neq, e_lss, e_leq, e_gtr, e_geq, e_beq, e_bne, e_peq1, e_peq2, e_pne1, e_pne2, e_zeq1, e_zeq2, e_zne1, e_zne2, e_feq1, e_fne1, e_feq2, e_fne2, e_seq, e_sne, e_ta1, e_ta2, Nat.zero_add, Nat.add_zero, Bool.not_true, Bool.not_false]
      unfold s3_p1
      exact ⟨rfl, hb2⟩

theorem ev_walk {W : World} {F : Nat} {v : Value} {xs : List Rc} (hs : Scr W F v xs) : Calls Try.prog 3 #[v] W fun e w' => e = .returned (.bool true) ∧ Below W.heap.size W w' :=
  Calls.mono (ev_law hs) fun e w' ⟨v, he, hv, hb⟩ => ⟨by rw [he, hv], hb⟩
end Go.Proofs.Qxb6500894a
