import Derived.Test.Qxb6500895aD19
namespace Go.Proofs.Qxb6500895a
open Go.Sh Go.RowKit
set_option linter.unusedVariables false
set_option linter.unusedSimpArgs false

section
variable {W w : World} {d mb : Nat} {m : Mem} {s : DS} {v : Value} {xs : List Op}

abbrev QM (d : Nat) (m : Mem) (mb : Nat) : Nat → Prop := fun b => Own d m b ∨ b = mb
structure St3 (W w : World) (d mb : Nat) (m : Mem) (s : DS) : Prop where
  base : Base W w d m s
  mo : Mo (QM d m mb) w mb s
  far : W.heap.size ≤ mb
theorem bd_of (h : Dk w d m s) : Bd s.flu s.fr s := ⟨fun i hi => (h.fsec i hi).1, fun i x _ hx => (h.rsec i x hx).1, h.klen, h.left0, h.left1⟩
theorem St3.kp' {w' : World} (h : St3 W w d mb m s) (hk : Kp (fun _ => False) w w') : St3 W w' d mb m s := ⟨h.base.kp' hk, h.mo.kp' hk, h.far⟩
theorem St3.nm (h : St3 W w d mb m s) : ¬ Own d m mb := by
  obtain ⟨fl, fr, kv, hm⟩ := h.mo
  exact h.base.dk.ntag hm.row (by decide)

def J3 (W : World) (d mb : Nat) (v : Value) (xs : List Op) (n : Nat) (l : List Value) (w' : World) : Prop :=
  ∃ (j : Nat) (m : Mem) (s : DS), j ≤ xs.length ∧ n = xs.length - j ∧ l = [P d 0, P mb 0, v, I xs.length, I j] ∧ St3 W w' d mb m s
abbrev K3 (W : World) : Value → World → Prop := fun r w' => r = .bool true ∧ Below W.heap.size W w'

theorem law3_loop (hs : Scr W v xs) (hsm : xs.length ≤ 65536 ∧ ∀ x ∈ xs, x.data.length ≤ 65536 ∧ x.keep.length ≤ 65536) (h : St3 W w d mb m s) :
    s3_p3 (K3 W) (P d 0) (P mb 0) v (I xs.length) (I 0) w := by
  refine ⟨J3 W d mb v xs, xs.length, ⟨0, m, s, by omega, by omega, rfl, h⟩, ?_⟩
  clear h
  rintro n l w ⟨j, m, s, hj, rfl, rfl, h⟩
  rw [s3_p3_Fe]
  unfold s3_p2
  simp only [e_fd, e_nck, e_pkt, e_pkf, e_gdtt, e_gdtf, e_gdft, e_gdff, e_ift, e_iff, e_not, e_ln, e_lnT, e_cp, e_cvi, e_ex20, e_ex21, e_ex30, e_ex31, e_ex32, e_add, e_sub, e_mul, e_quo, e_rem, e_and, e_or, e_xor, e_shl, e_shr, e_eql, e_neq, e_lss, e_leq, e_gtr, e_geq, e_beq, e_bne, e_peq1, e_peq2, e_pne1, e_pne2, e_zeq1, e_zeq2, e_zne1, e_zne2, e_feq1, e_fne1, e_feq2, e_fne2, e_seq, e_sne, e_ta1, e_ta2, Nat.zero_add, Nat.add_zero, Bool.not_true, Bool.not_false]
  by_cases hlt : j < xs.length
  · have hlt' : (j : Int) < (xs.length : Int) := by omega
    simp only [hlt', decide_true, e_fd, e_nck, e_pkt, e_pkf, e_gdtt, e_gdtf, e_gdft, e_gdff, e_ift, e_iff, e_not, e_ln, e_lnT, e_cp, e_cvi, e_ex20, e_ex21, e_ex30, e_ex31, e_ex32, e_add, e_sub, e_mul, e_quo, e_rem, e_and, e_or, e_xor, e_shl, e_shr, e_eql, e_neq, e_lss, e_leq, e_gtr, e_geq, e_beq, e_bne, e_peq1, e_peq2, e_pne1, e_pne2, e_zeq1, e_zeq2, e_zne1, e_zne2, e_feq1, e_fne1, e_feq2, e_fne2, e_seq, e_sne, e_ta1, e_ta2, Nat.zero_add, Nat.add_zero, Bool.not_true, Bool.not_false]
    obtain ⟨hdl, hkl⟩ := hsm.2 _ (List.getElem_mem hlt)
    refine hs.take h.base.bel hlt hkl fun w1 ob dv kvo hob r1 hk1 hov hdv hkv sdv skv => ?_
    generalize xs[j] = op at *
    have h1 := h.kp' hk1
    refine ldn_r r1 (show 0 + 8 ≤ 8 by decide) ?_
    refine h1.base.play hov fun w2 m2 bv hb2 st2 hbv => ?_
    have mo2 : Mo (QM d m2 mb) w2 mb s := by
      obtain ⟨fl, fr, kv, hm⟩ := h1.mo
      have lm := hm.row.lt
      refine ⟨fl, fr, kv, hm.mv st2.kp (fun b q => .inl q) h1.nm (fun b q => ?_) (.inr rfl) (fun b q => ?_)⟩
      · rcases q with q | q
        · exact (st2.own b q).elim (fun q => .inl (.inl q)) .inr
        · exact .inl (.inr q)
      · rcases q with q | q
        · exact hb2.dk.lt q
        · subst q; exact Nat.lt_of_lt_of_le lm st2.kp.size
    have s2 : ¬ Own d m2 mb := by
      obtain ⟨fl, fr, kv, hm⟩ := mo2
      exact hb2.dk.ntag hm.row (by decide)
    have r12 := st2.kp.row r1 (h1.base.dk.ntag r1 (by decide))
    have hov2 : OpV w2 W.heap.size (.agg (opc dv kvo op).toArray) op := hov.kp st2.kp (fun b q => h1.base.far b q)
    simp only [e_fd, e_nck, e_pkt, e_pkf, e_gdtt, e_gdtf, e_gdft, e_gdff, e_ift, e_iff, e_not, e_ln, e_lnT, e_cp, e_cvi, e_ex20, e_ex21, e_ex30, e_ex31, e_ex32, e_add, e_sub, e_mul, e_quo, e_rem, e_and, e_or, e_xor, e_shl, e_shr, e_eql, e_neq, e_lss, e_leq, e_gtr, e_geq, e_beq, e_bne, e_peq1, e_peq2, e_pne1, e_pne2, e_zeq1, e_zeq2, e_zne1, e_zne2, e_feq1, e_fne1, e_feq2, e_fne2, e_seq, e_sne, e_ta1, e_ta2, Nat.zero_add, Nat.add_zero, Bool.not_true, Bool.not_false]
    refine ldn_r r12 (show 0 + 8 ≤ 8 by decide) ?_
    refine playModel_ok mo2 (bd_of h.base.dk) (hov2.toQ (fun b q => q.elim (hb2.far b) (fun q => q ▸ h.far))) hdl fun w3 mv mo3 hk3 hmv => ?_
    have h3 : St3 W w3 d mb m2 (playS s op).2.2 := ⟨hb2.kp hk3 (fun b hb (q : b = mb) => s2 (q ▸ hb)) (fun b (q : b = mb) => by rw [q]; exact h.far), mo3, h.far⟩
    have mrow : ∃ l, Row w2 mb 71 l := by obtain ⟨fl, fr, kv, hm⟩ := mo2; exact ⟨_, hm.row⟩
    have r13 : Row w3 ob 34 (opc dv kvo op) := hk3.row r12 (fun (q : _ = _) => by obtain ⟨l, hr⟩ := mrow; exact row_ne r12 hr (by decide) q)
    simp only [bne_self_eq_false, e_fd, e_nck, e_pkt, e_pkf, e_gdtt, e_gdtf, e_gdft, e_gdff, e_ift, e_iff, e_not, e_ln, e_lnT, e_cp, e_cvi, e_ex20, e_ex21, e_ex30, e_ex31, e_ex32, e_add, e_sub, e_mul, e_quo, e_rem, e_and, e_or, e_xor, e_shl, e_shr, e_eql, e_neq, e_lss, e_leq, e_gtr, e_geq, e_beq, e_bne, e_peq1, e_peq2, e_pne1, e_pne2, e_zeq1, e_zeq2, e_zne1, e_zne2, e_feq1, e_fne1, e_feq2, e_fne2, e_seq, e_sne, e_ta1, e_ta2, Nat.zero_add, Nat.add_zero, Bool.not_true, Bool.not_false]
    refine ld1_r r13 (v := I op.kind) rfl ?_
    simp only [e_fd, e_nck, e_pkt, e_pkf, e_gdtt, e_gdtf, e_gdft, e_gdff, e_ift, e_iff, e_not, e_ln, e_lnT, e_cp, e_cvi, e_ex20, e_ex21, e_ex30, e_ex31, e_ex32, e_add, e_sub, e_mul, e_quo, e_rem, e_and, e_or, e_xor, e_shl, e_shr, e_eql, e_neq, e_lss, e_leq, e_gtr, e_geq, e_beq, e_bne, e_peq1, e_peq2, e_pne1, e_pne2, e_zeq1, e_zeq2, e_zne1, e_zne2, e_feq1, e_fne1, e_feq2, e_fne2, e_seq, e_sne, e_ta1, e_ta2, Nat.zero_add, Nat.add_zero, Bool.not_true, Bool.not_false]
    -- the views
    have fin : ∀ w4, Kp (fun _ => False) w3 w4 → cl Try.prog 18 #[P d 0] (fun t51 w => cl Try.prog 19 #[P mb 0] (fun t53 w => cl Try.prog 17 #[t51, t53] (fun t54 w => un .not t54 (fun t55 w => ifb t55 (K3 W (.bool false) w) (boI .add (I j) (.int .i64 1) (fun t56 w => (fun l' w' => ∃ n', n' < xs.length - j ∧ J3 W d mb v xs n' l' w') [P d 0, P mb 0, v, I xs.length, t56] w) w)) w) w) w) w4 := by
      intro w4 hk4
      have h4 := h3.kp' hk4
      refine look_ok (Q := fun _ => False) h4.base.dk (fun _ q => q.elim) fun w5 v5 hk5 hv5 => ?_
      have h5 := h4.kp' hk5
      refine lookModel_ok h5.mo h5.base.dk.klen fun w6 v6 hk6 hv6 => ?_
      have h6 := h5.kp' hk6
      refine same_ok (hv5.kp' hk6) hv6 fun w7 hk7 => ?_
      simp only [Bool.not_true, e_fd, e_nck, e_pkt, e_pkf, e_gdtt, e_gdtf, e_gdft, e_gdff, e_ift, e_iff, e_not, e_ln, e_lnT, e_cp, e_cvi, e_ex20, e_ex21, e_ex30, e_ex31, e_ex32, e_add, e_sub, e_mul, e_quo, e_rem, e_and, e_or, e_xor, e_shl, e_shr, e_eql, e_neq, e_lss, e_leq, e_gtr, e_geq, e_beq, e_bne, e_peq1, e_peq2, e_pne1, e_pne2, e_zeq1, e_zeq2, e_zne1, e_zne2, e_feq1, e_fne1, e_feq2, e_fne2, e_seq, e_sne, e_ta1, e_ta2, Nat.zero_add, Nat.add_zero, Bool.not_true, Bool.not_false]
      rw [wrap64_id (by omega) (by omega)]
      exact ⟨xs.length - (j + 1), by omega, j + 1, m2, _, by omega, rfl, by simp, h6.kp' hk7⟩
    simp only [e_fd, e_nck, e_pkt, e_pkf, e_gdtt, e_gdtf, e_gdft, e_gdff, e_ift, e_iff, e_not, e_ln, e_lnT, e_cp, e_cvi, e_ex20, e_ex21, e_ex30, e_ex31, e_ex32, e_add, e_sub, e_mul, e_quo, e_rem, e_and, e_or, e_xor, e_shl, e_shr, e_eql, e_neq, e_lss, e_leq, e_gtr, e_geq, e_beq, e_bne, e_peq1, e_peq2, e_pne1, e_pne2, e_zeq1, e_zeq2, e_zne1, e_zne2, e_feq1, e_fne1, e_feq2, e_fne2, e_seq, e_sne, e_ta1, e_ta2, Nat.zero_add, Nat.add_zero, Bool.not_true, Bool.not_false] at fin
    by_cases k1 : op.kind = 1
    · have e : (op.kind == 1) = true := by simpa using k1
      simp only [e, e_fd, e_nck, e_pkt, e_pkf, e_gdtt, e_gdtf, e_gdft, e_gdff, e_ift, e_iff, e_not, e_ln, e_lnT, e_cp, e_cvi, e_ex20, e_ex21, e_ex30, e_ex31, e_ex32, e_add, e_sub, e_mul, e_quo, e_rem, e_and, e_or, e_xor, e_shl, e_shr, e_eql, e_neq, e_lss, e_leq, e_gtr, e_geq, e_beq, e_bne, e_peq1, e_peq2, e_pne1, e_pne2, e_zeq1, e_zeq2, e_zne1, e_zne2, e_feq1, e_fne1, e_feq2, e_fne2, e_seq, e_sne, e_ta1, e_ta2, Nat.zero_add, Nat.add_zero, Bool.not_true, Bool.not_false]
      by_cases hc : (playS s op).1 = 0
      · have e : ((playS s op).1 == 0) = true := by simpa using hc
        simp only [e, e_fd, e_nck, e_pkt, e_pkf, e_gdtt, e_gdtf, e_gdft, e_gdff, e_ift, e_iff, e_not, e_ln, e_lnT, e_cp, e_cvi, e_ex20, e_ex21, e_ex30, e_ex31, e_ex32, e_add, e_sub, e_mul, e_quo, e_rem, e_and, e_or, e_xor, e_shl, e_shr, e_eql, e_neq, e_lss, e_leq, e_gtr, e_geq, e_beq, e_bne, e_peq1, e_peq2, e_pne1, e_pne2, e_zeq1, e_zeq2, e_zne1, e_zne2, e_feq1, e_fne1, e_feq2, e_fne2, e_seq, e_sne, e_ta1, e_ta2, Nat.zero_add, Nat.add_zero, Bool.not_true, Bool.not_false]
        have hb3 : Vs U8 w3 bv (playS s op).2.1 := by
          refine (hbv.toVs h.base.dk).kp hk3 (fun b o c h0 e (q : b = mb) => ?_)
          obtain ⟨_, hq⟩ := hbv
          rcases hq with ⟨_, e', e''⟩ | ⟨_, b', e', rb, hbb, hnb⟩
          · rw [e''] at h0; simp at h0
          · rw [e'] at e
            cases e
            obtain ⟨l, hr⟩ := mrow
            exact row_ne rb hr (by decide) q
        refine sameBytes_ok hb3 (hmv k1 hc) fun w4 hk4 => ?_
        simp only [Bool.not_true, e_fd, e_nck, e_pkt, e_pkf, e_gdtt, e_gdtf, e_gdft, e_gdff, e_ift, e_iff, e_not, e_ln, e_lnT, e_cp, e_cvi, e_ex20, e_ex21, e_ex30, e_ex31, e_ex32, e_add, e_sub, e_mul, e_quo, e_rem, e_and, e_or, e_xor, e_shl, e_shr, e_eql, e_neq, e_lss, e_leq, e_gtr, e_geq, e_beq, e_bne, e_peq1, e_peq2, e_pne1, e_pne2, e_zeq1, e_zeq2, e_zne1, e_zne2, e_feq1, e_fne1, e_feq2, e_fne2, e_seq, e_sne, e_ta1, e_ta2, Nat.zero_add, Nat.add_zero, Bool.not_true, Bool.not_false]
        exact fin w4 hk4
      · have e : ((playS s op).1 == 0) = false := by simpa using hc
        simp only [e, e_gdu, e_fd, e_nck, e_pkt, e_pkf, e_gdtt, e_gdtf, e_gdft, e_gdff, e_ift, e_iff, e_not, e_ln, e_lnT, e_cp, e_cvi, e_ex20, e_ex21, e_ex30, e_ex31, e_ex32, e_add, e_sub, e_mul, e_quo, e_rem, e_and, e_or, e_xor, e_shl, e_shr, e_eql, e_neq, e_lss, e_leq, e_gtr, e_geq, e_beq, e_bne, e_peq1, e_peq2, e_pne1, e_pne2, e_zeq1, e_zeq2, e_zne1, e_zne2, e_feq1, e_fne1, e_feq2, e_fne2, e_seq, e_sne, e_ta1, e_ta2, Nat.zero_add, Nat.add_zero, Bool.not_true, Bool.not_false]
        exact fin w3 (Kp.refl _ _)
    · have e : (op.kind == 1) = false := by simpa using k1
      simp only [e, e_gdu, e_fd, e_nck, e_pkt, e_pkf, e_gdtt, e_gdtf, e_gdft, e_gdff, e_ift, e_iff, e_not, e_ln, e_lnT, e_cp, e_cvi, e_ex20, e_ex21, e_ex30, e_ex31, e_ex32, e_add, e_sub, e_mul, e_quo, e_rem, e_and, e_or, e_xor, e_shl, e_shr, e_eql, e_neq, e_lss, e_leq, e_gtr, e_geq, e_beq, e_bne, e_peq1, e_peq2, e_pne1, e_pne2, e_zeq1, e_zeq2, e_zne1, e_zne2, e_feq1, e_fne1, e_feq2, e_fne2, e_seq, e_sne, e_ta1, e_ta2, Nat.zero_add, Nat.add_zero, Bool.not_true, Bool.not_false]
      exact fin w3 (Kp.refl _ _)
  · have hlt' : ¬ (j : Int) < (xs.length : Int) := by omega
    simp only [hlt', decide_false, e_fd, e_nck, e_pkt, e_pkf, e_gdtt, e_gdtf, e_gdft, e_gdff, e_ift, e_iff, e_not, e_ln, e_lnT, e_cp, e_cvi, e_ex20, e_ex21, e_ex30, e_ex31, e_ex32, e_add, e_sub, e_mul, e_quo, e_rem, e_and, e_or, e_xor, e_shl, e_shr, e_eql, e_neq, e_lss, e_leq, e_gtr, e_geq, e_beq, e_bne, e_peq1, e_peq2, e_pne1, e_pne2, e_zeq1, e_zeq2, e_zne1, e_zne2, e_feq1, e_fne1, e_feq2, e_fne2, e_seq, e_sne, e_ta1, e_ta2, Nat.zero_add, Nat.add_zero, Bool.not_true, Bool.not_false]
    exact ⟨rfl, h.base.bel⟩

theorem law3 (hs : Scr W v xs) : cl Try.prog 3 #[v] (fun r w' => r = .bool true ∧ Below W.heap.size W w') W := by
  apply c3
  unfold s3_p4
  refine small_ok hs (Below.refl _ _) fun r hr => ?_
  simp only [e_fd, e_nck, e_pkt, e_pkf, e_gdtt, e_gdtf, e_gdft, e_gdff, e_ift, e_iff, e_not, e_ln, e_lnT, e_cp, e_cvi, e_ex20, e_ex21, e_ex30, e_ex31, e_ex32, e_add, e_sub, e_mul, e_quo, e_rem, e_and, e_or, e_xor, e_shl, e_shr, e_eql, e_neq, e_lss, e_leq, e_gtr, e_geq, e_beq, e_bne, e_peq1, e_peq2, e_pne1, e_pne2, e_zeq1, e_zeq2, e_zne1, e_zne2, e_feq1, e_fne1, e_feq2, e_fne2, e_seq, e_sne, e_ta1, e_ta2, Nat.zero_add, Nat.add_zero, Bool.not_true, Bool.not_false]
  cases r with
  | false =>
    simp only [Bool.not_false, e_fd, e_nck, e_pkt, e_pkf, e_gdtt, e_gdtf, e_gdft, e_gdff, e_ift, e_iff, e_not, e_ln, e_lnT, e_cp, e_cvi, e_ex20, e_ex21, e_ex30, e_ex31, e_ex32, e_add, e_sub, e_mul, e_quo, e_rem, e_and, e_or, e_xor, e_shl, e_shr, e_eql, e_neq, e_lss, e_leq, e_gtr, e_geq, e_beq, e_bne, e_peq1, e_peq2, e_pne1, e_pne2, e_zeq1, e_zeq2, e_zne1, e_zne2, e_feq1, e_fne1, e_feq2, e_fne2, e_seq, e_sne, e_ta1, e_ta2, Nat.zero_add, Nat.add_zero, Bool.not_true, Bool.not_false]
    exact ⟨trivial, Below.refl _ _⟩
  | true =>
    have hr := hr rfl
    simp only [Bool.not_true, e_fd, e_nck, e_pkt, e_pkf, e_gdtt, e_gdtf, e_gdft, e_gdff, e_ift, e_iff, e_not, e_ln, e_lnT, e_cp, e_cvi, e_ex20, e_ex21, e_ex30, e_ex31, e_ex32, e_add, e_sub, e_mul, e_quo, e_rem, e_and, e_or, e_xor, e_shl, e_shr, e_eql, e_neq, e_lss, e_leq, e_gtr, e_geq, e_beq, e_bne, e_peq1, e_peq2, e_pne1, e_pne2, e_zeq1, e_zeq2, e_zne1, e_zne2, e_feq1, e_fne1, e_feq2, e_fne2, e_seq, e_sne, e_ta1, e_ta2, Nat.zero_add, Nat.add_zero, Bool.not_true, Bool.not_false]
    refine fresh_ok fun w1 d m hd hfar hk1 => ?_
    refine mnew_ok (Q := Own d m) (fun b q => hd.lt q) fun w2 mb hmb hmo hk2 => ?_
    refine hs.ln ?_
    have s1 := hk1.size
    exact law3_loop hs hr ⟨⟨hd.kp' hk2, hfar, (hk1.trans hk2).below'⟩, hmo, by omega⟩
theorem law3_walk (hs : Scr W v xs) : Calls Try.prog 3 #[v] W fun e w' => e = .returned (.bool true) ∧ Below W.heap.size W w' :=
  Calls.mono (law3 hs) fun e w' ⟨v, he, hv, hb⟩ => ⟨by rw [he, hv], hb⟩
end
end Go.Proofs.Qxb6500895a
