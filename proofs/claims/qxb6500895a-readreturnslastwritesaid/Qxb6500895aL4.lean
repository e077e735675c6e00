import Derived.Test.Qxb6500895aD10
namespace Go.Proofs.Qxb6500895a
open Go.Sh Go.RowKit
set_option linter.unusedVariables false
set_option linter.unusedSimpArgs false

section
variable {W w : World} {d lb : Nat} {m : Mem} {s : DS} {v : Value} {xs : List Op} {vs : List Value} {last : Nat → Option (List Int)}

/-- the state of the law's loop -/
structure St4 (W w : World) (d lb : Nat) (m : Mem) (s : DS) (vs : List Value) (last : Nat → Option (List Int)) : Prop where
  base : Base W w d m s
  arr : Arr (Own d m) w lb vs last
  lfar : W.heap.size ≤ lb
  now : ∀ i x, i < 12 → last i = some x → nowS s i = x

theorem St4.kp' {w' : World} (h : St4 W w d lb m s vs last) (hk : Kp (fun _ => False) w w') : St4 W w' d lb m s vs last := ⟨h.base.kp' hk, h.arr.kp' hk, h.lfar, h.now⟩
theorem law4_loop (hs : Scr W v xs) (hsm : xs.length ≤ 65536 ∧ ∀ x ∈ xs, x.data.length ≤ 65536 ∧ x.keep.length ≤ 65536) (h : St4 W w d lb m s vs last) :
    s4_p10 (fun r w' => r = .bool true ∧ Below W.heap.size W w') v (.pointer (some ⟨d, 0, none⟩)) (.pointer (some ⟨lb, 0, none⟩)) w := by
  unfold s4_p10
  refine hs.ln ?_
  refine ⟨fun n l w' => ∃ (j : Nat) (m : Mem) (s : DS) (vs : List Value) (last : Nat → Option (List Int)), j ≤ xs.length ∧ n = xs.length - j ∧ l = [.pointer (some ⟨d, 0, none⟩), .pointer (some ⟨lb, 0, none⟩), v, I xs.length, I j] ∧ St4 W w' d lb m s vs last,
    xs.length, ⟨0, m, s, vs, last, by omega, by omega, rfl, h⟩, ?_⟩
  clear h
  rintro n l w ⟨j, m, s, vs, last, hj, rfl, rfl, h⟩
  rw [s4_p9_Fe]
  unfold s4_p8
  simp only [e_fd, e_nck, e_pkt, e_pkf, e_gdtt, e_gdtf, e_gdft, e_gdff, e_ift, e_iff, e_not, e_ln, e_lnT, e_cp, e_cvi, e_ex20, e_ex21, e_ex30, e_ex31, e_ex32, e_add, e_sub, e_mul, e_quo, e_rem, e_and, e_or, e_xor, e_shl, e_shr, e_eql, e_neq, e_lss, e_leq, e_gtr, e_geq, e_beq, e_bne, e_peq1, e_peq2, e_pne1, e_pne2, e_zeq1, e_zeq2, e_zne1, e_zne2, e_feq1, e_fne1, e_feq2, e_fne2, e_seq, e_sne, e_ta1, e_ta2, Nat.zero_add, Nat.add_zero, Bool.not_true, Bool.not_false]
  by_cases hlt : j < xs.length
  · have hlt' : (j : Int) < (xs.length : Int) := by omega
    simp only [hlt', decide_true, e_fd, e_nck, e_pkt, e_pkf, e_gdtt, e_gdtf, e_gdft, e_gdff, e_ift, e_iff, e_not, e_ln, e_lnT, e_cp, e_cvi, e_ex20, e_ex21, e_ex30, e_ex31, e_ex32, e_add, e_sub, e_mul, e_quo, e_rem, e_and, e_or, e_xor, e_shl, e_shr, e_eql, e_neq, e_lss, e_leq, e_gtr, e_geq, e_beq, e_bne, e_peq1, e_peq2, e_pne1, e_pne2, e_zeq1, e_zeq2, e_zne1, e_zne2, e_feq1, e_fne1, e_feq2, e_fne2, e_seq, e_sne, e_ta1, e_ta2, Nat.zero_add, Nat.add_zero, Bool.not_true, Bool.not_false]
    obtain ⟨hdl, hkl⟩ := hsm.2 _ (List.getElem_mem hlt)
    unfold s4_p7
    refine hs.take h.base.bel hlt hkl fun w1 ob dv kv hob r1 hk1 hov hdv hkv sdv skv => ?_
    generalize xs[j] = op at *
    refine ldn_r r1 (show 0 + 8 ≤ 8 by decide) ?_
    have h1 := h.kp' hk1
    refine h1.base.play hov fun w2 m2 bv hb2 st2 hbv => ?_
    have nlb := h1.base.dk.ntag h1.arr.row (by decide)
    have a2 : Arr (Own d m2) w2 lb vs last := h1.arr.mv st2.kp (fun _ q => q) st2.own nlb
    simp only [e_fd, e_nck, e_pkt, e_pkf, e_gdtt, e_gdtf, e_gdft, e_gdff, e_ift, e_iff, e_not, e_ln, e_lnT, e_cp, e_cvi, e_ex20, e_ex21, e_ex30, e_ex31, e_ex32, e_add, e_sub, e_mul, e_quo, e_rem, e_and, e_or, e_xor, e_shl, e_shr, e_eql, e_neq, e_lss, e_leq, e_gtr, e_geq, e_beq, e_bne, e_peq1, e_peq2, e_pne1, e_pne2, e_zeq1, e_zeq2, e_zne1, e_zne2, e_feq1, e_fne1, e_feq2, e_fne2, e_seq, e_sne, e_ta1, e_ta2, Nat.zero_add, Nat.add_zero, Bool.not_true, Bool.not_false]
    refine offline_ok hb2.dk ?_
    -- the next turn
    have next : ∀ w' vs' last', St4 W w' d lb m2 (playS s op).2.2 vs' last' → s4_p2 (fun r w' => r = .bool true ∧ Below W.heap.size W w') (fun l' w' => ∃ n', n' < xs.length - j ∧ ∃ (j : Nat) (m : Mem) (s : DS) (vs : List Value) (last : Nat → Option (List Int)), j ≤ xs.length ∧ n' = xs.length - j ∧ l' = [.pointer (some ⟨d, 0, none⟩), .pointer (some ⟨lb, 0, none⟩), v, I xs.length, I j] ∧ St4 W w' d lb m s vs last)
        (.pointer (some ⟨d, 0, none⟩)) (.pointer (some ⟨lb, 0, none⟩)) v (I xs.length) (I j) w' := by
      intro w' vs' last' h'
      unfold s4_p2
      simp only [e_fd, e_nck, e_pkt, e_pkf, e_gdtt, e_gdtf, e_gdft, e_gdff, e_ift, e_iff, e_not, e_ln, e_lnT, e_cp, e_cvi, e_ex20, e_ex21, e_ex30, e_ex31, e_ex32, e_add, e_sub, e_mul, e_quo, e_rem, e_and, e_or, e_xor, e_shl, e_shr, e_eql, e_neq, e_lss, e_leq, e_gtr, e_geq, e_beq, e_bne, e_peq1, e_peq2, e_pne1, e_pne2, e_zeq1, e_zeq2, e_zne1, e_zne2, e_feq1, e_fne1, e_feq2, e_fne2, e_seq, e_sne, e_ta1, e_ta2, Nat.zero_add, Nat.add_zero, Bool.not_true, Bool.not_false]
      rw [wrap64_id (by omega) (by omega)]
      exact ⟨xs.length - (j + 1), by omega, j + 1, m2, _, vs', last', by omega, rfl, by simp, h'⟩
    have setk : ∀ w3 w4 k u o, Base W w3 d m2 (playS s op).2.2 → Arr (Own d m2) w3 lb vs last → Kp (fun b => b = lb) w3 w4 → Row w4 lb 48 (vs.set k u) → SecV (Own d m2) w3 u o → (∀ x, o = some x → nowS (playS s op).2.2 k = x) → (∀ i, i < 12 → i ≠ k → nowS (playS s op).2.2 i = nowS s i) →
        s4_p2 (fun r w' => r = .bool true ∧ Below W.heap.size W w') (fun l' w' => ∃ n', n' < xs.length - j ∧ ∃ (j : Nat) (m : Mem) (s : DS) (vs : List Value) (last : Nat → Option (List Int)), j ≤ xs.length ∧ n' = xs.length - j ∧ l' = [.pointer (some ⟨d, 0, none⟩), .pointer (some ⟨lb, 0, none⟩), v, I xs.length, I j] ∧ St4 W w' d lb m s vs last)
        (.pointer (some ⟨d, 0, none⟩)) (.pointer (some ⟨lb, 0, none⟩)) v (I xs.length) (I j) w4 := by
      intro w3 w4 k u o b3 a3 hk4 r4 hv hn1 hn2
      refine next w4 (vs.set k u) (upd last k o) ⟨b3.kp hk4 (fun b hb (q : b = lb) => ?_) (fun b (q : b = lb) => by rw [q]; exact h.lfar), a3.set hk4 r4 hv, h.lfar, fun i x hi hx => ?_⟩
      · subst q; exact b3.dk.ntag a3.row (by decide) hb
      · unfold upd at hx
        by_cases e : i = k
        · subst e; rw [if_pos rfl] at hx; exact hn1 x hx
        · rw [if_neg e] at hx; rw [hn2 i hi e]; exact h.now i x hi hx
    cases ho : (playS s op).2.2.off with
    | true =>
      simp only [e_fd, e_nck, e_pkt, e_pkf, e_gdtt, e_gdtf, e_gdft, e_gdff, e_ift, e_iff, e_not, e_ln, e_lnT, e_cp, e_cvi, e_ex20, e_ex21, e_ex30, e_ex31, e_ex32, e_add, e_sub, e_mul, e_quo, e_rem, e_and, e_or, e_xor, e_shl, e_shr, e_eql, e_neq, e_lss, e_leq, e_gtr, e_geq, e_beq, e_bne, e_peq1, e_peq2, e_pne1, e_pne2, e_zeq1, e_zeq2, e_zne1, e_zne2, e_feq1, e_fne1, e_feq2, e_fne2, e_seq, e_sne, e_ta1, e_ta2, Nat.zero_add, Nat.add_zero, Bool.not_true, Bool.not_false]
      refine bdq_r (l := nil12) rfl ?_
      refine stn_r a2.row rfl (show 0 + 12 ≤ vs.length by rw [a2.len]; decide) rfl fun w3 r3 hk3 hz3 => ?_
      have r3' : Row w3 lb 48 nil12 := by
        have : vs.drop (0 + 12) = [] := List.drop_of_length_le (by rw [a2.len]; omega)
        rw [this, List.append_nil] at r3
        exact r3
      refine next w3 nil12 _ ⟨hb2.kp hk3 (fun b hb (q : b = lb) => ?_) (fun b (q : b = lb) => by rw [q]; exact h.lfar), Arr.nil r3', h.lfar, fun i x _ hx => by cases hx⟩
      subst q; exact hb2.dk.ntag a2.row (by decide) hb
    | false =>
      simp only [e_fd, e_nck, e_pkt, e_pkf, e_gdtt, e_gdtf, e_gdft, e_gdff, e_ift, e_iff, e_not, e_ln, e_lnT, e_cp, e_cvi, e_ex20, e_ex21, e_ex30, e_ex31, e_ex32, e_add, e_sub, e_mul, e_quo, e_rem, e_and, e_or, e_xor, e_shl, e_shr, e_eql, e_neq, e_lss, e_leq, e_gtr, e_geq, e_beq, e_bne, e_peq1, e_peq2, e_pne1, e_pne2, e_zeq1, e_zeq2, e_zne1, e_zne2, e_feq1, e_fne1, e_feq2, e_fne2, e_seq, e_sne, e_ta1, e_ta2, Nat.zero_add, Nat.add_zero, Bool.not_true, Bool.not_false]
      have hnow := play_now ho
      by_cases hc : (playS s op).1 = 0
      · have e : ((playS s op).1 != 0) = false := by simpa using hc
        simp only [e, e_fd, e_nck, e_pkt, e_pkf, e_gdtt, e_gdtf, e_gdft, e_gdff, e_ift, e_iff, e_not, e_ln, e_lnT, e_cp, e_cvi, e_ex20, e_ex21, e_ex30, e_ex31, e_ex32, e_add, e_sub, e_mul, e_quo, e_rem, e_and, e_or, e_xor, e_shl, e_shr, e_eql, e_neq, e_lss, e_leq, e_gtr, e_geq, e_beq, e_bne, e_peq1, e_peq2, e_pne1, e_pne2, e_zeq1, e_zeq2, e_zne1, e_zne2, e_feq1, e_fne1, e_feq2, e_fne2, e_seq, e_sne, e_ta1, e_ta2, Nat.zero_add, Nat.add_zero, Bool.not_true, Bool.not_false]
        have ow : ¬ Own d m ob := by intro q; have := h.base.dk.lt q; omega
        have r2 : Row w2 ob 34 (opc dv kv op) := st2.kp.row r1 ow
        refine ld1_r r2 rfl ?_
        unfold s4_p6
        simp only [e_fd, e_nck, e_pkt, e_pkf, e_gdtt, e_gdtf, e_gdft, e_gdff, e_ift, e_iff, e_not, e_ln, e_lnT, e_cp, e_cvi, e_ex20, e_ex21, e_ex30, e_ex31, e_ex32, e_add, e_sub, e_mul, e_quo, e_rem, e_and, e_or, e_xor, e_shl, e_shr, e_eql, e_neq, e_lss, e_leq, e_gtr, e_geq, e_beq, e_bne, e_peq1, e_peq2, e_pne1, e_pne2, e_zeq1, e_zeq2, e_zne1, e_zne2, e_feq1, e_fne1, e_feq2, e_fne2, e_seq, e_sne, e_ta1, e_ta2, Nat.zero_add, Nat.add_zero, Bool.not_true, Bool.not_false]
        unfold s4_p5
        by_cases k0 : op.kind = 0
        · have e : (op.kind == 0) = true := by simpa using k0
          simp only [e, e_fd, e_nck, e_pkt, e_pkf, e_gdtt, e_gdtf, e_gdft, e_gdff, e_ift, e_iff, e_not, e_ln, e_lnT, e_cp, e_cvi, e_ex20, e_ex21, e_ex30, e_ex31, e_ex32, e_add, e_sub, e_mul, e_quo, e_rem, e_and, e_or, e_xor, e_shl, e_shr, e_eql, e_neq, e_lss, e_leq, e_gtr, e_geq, e_beq, e_bne, e_peq1, e_peq2, e_pne1, e_pne2, e_zeq1, e_zeq2, e_zne1, e_zne2, e_feq1, e_fne1, e_feq2, e_fne2, e_seq, e_sne, e_ta1, e_ta2, Nat.zero_add, Nat.add_zero, Bool.not_true, Bool.not_false]
          obtain ⟨h0, h12⟩ : 0 ≤ op.sec ∧ op.sec < 12 := by
            rcases play_cases s op with q | q | q | q | q | q
            · exact ⟨q.2.2.2.1, q.2.2.2.2.1⟩
            · omega
            · exact absurd k0 q.2.1
            · omega
            · exact absurd hc q.2
            · rw [ho] at q; cases q.2.1
          unfold s4_p3 s4_p3_d
          simp only [e_fd, e_nck, e_pkt, e_pkf, e_gdtt, e_gdtf, e_gdft, e_gdff, e_ift, e_iff, e_not, e_ln, e_lnT, e_cp, e_cvi, e_ex20, e_ex21, e_ex30, e_ex31, e_ex32, e_add, e_sub, e_mul, e_quo, e_rem, e_and, e_or, e_xor, e_shl, e_shr, e_eql, e_neq, e_lss, e_leq, e_gtr, e_geq, e_beq, e_bne, e_peq1, e_peq2, e_pne1, e_pne2, e_zeq1, e_zeq2, e_zne1, e_zne2, e_feq1, e_fne1, e_feq2, e_fne2, e_seq, e_sne, e_ta1, e_ta2, Nat.zero_add, Nat.add_zero, Bool.not_true, Bool.not_false]
          have r2' := r2.drw
          refine ld1_r r2' rfl ?_
          refine ld1_r r2' rfl ?_
          refine ⟨⟨by omega, by omega⟩, ?_⟩
          obtain ⟨k, hk⟩ : ∃ k : Nat, op.sec = (k : Int) := ⟨op.sec.toNat, by omega⟩
          rw [add_mk, show op.sec.toNat = k by omega, Nat.zero_add, Nat.mul_one]
          have hdv2 : Vs U8 w2 dv op.data := hdv.kp st2.kp (fun b o c h0 e q => by
            obtain ⟨dv', kv', e1, _, _, _, _, _, hb7, _⟩ := hov
            have e2 : dv' = dv := by simp [opc] at e1; exact e1.1.symm
            subst e2
            have := hb7 b o c h0 e
            have := h.base.far b q
            omega)
          refine copyBytes_ok (hdv2.kp' kp_drw) hdl fun w3 cb cap junk hcap hcb r3 hk3 => ⟨hk3.below', ?_⟩
          have hkd : Kp (fun _ => False) w2 w3 := kp_drw.trans hk3
          have a3 := a2.kp' hkd
          refine st1_r a3.row (by rw [a3.len]; omega) rfl fun w4 r4 hk4 hz4 => ?_
          refine setk w3 w4 k _ _ (hb2.kp' hkd) a3 hk4 r4 (.inr ⟨op.data, cb, cap, junk, rfl, rfl, hcap, by omega, r3, fun q => ?_⟩) (fun x hx => ?_) (fun i hi hne => ?_)
          · have := hb2.dk.lt q
            have := (kp_drw (w := w2) (S := fun _ => False)).size
            omega
          · cases hx
            rw [hnow, if_pos ⟨k0, hc, hk⟩]
          · rw [hnow, if_neg (fun q => hne (by omega))]
        · have e : (op.kind == 0) = false := by simpa using k0
          simp only [e, e_fd, e_nck, e_pkt, e_pkf, e_gdtt, e_gdtf, e_gdft, e_gdff, e_ift, e_iff, e_not, e_ln, e_lnT, e_cp, e_cvi, e_ex20, e_ex21, e_ex30, e_ex31, e_ex32, e_add, e_sub, e_mul, e_quo, e_rem, e_and, e_or, e_xor, e_shl, e_shr, e_eql, e_neq, e_lss, e_leq, e_gtr, e_geq, e_beq, e_bne, e_peq1, e_peq2, e_pne1, e_pne2, e_zeq1, e_zeq2, e_zne1, e_zne2, e_feq1, e_fne1, e_feq2, e_fne2, e_seq, e_sne, e_ta1, e_ta2, Nat.zero_add, Nat.add_zero, Bool.not_true, Bool.not_false]
          have same : ∀ i, nowS (playS s op).2.2 i = nowS s i := fun i => by rw [hnow, if_neg (fun q => k0 q.1)]
          unfold s4_p4
          simp only [e_fd, e_nck, e_pkt, e_pkf, e_gdtt, e_gdtf, e_gdft, e_gdff, e_ift, e_iff, e_not, e_ln, e_lnT, e_cp, e_cvi, e_ex20, e_ex21, e_ex30, e_ex31, e_ex32, e_add, e_sub, e_mul, e_quo, e_rem, e_and, e_or, e_xor, e_shl, e_shr, e_eql, e_neq, e_lss, e_leq, e_gtr, e_geq, e_beq, e_bne, e_peq1, e_peq2, e_pne1, e_pne2, e_zeq1, e_zeq2, e_zne1, e_zne2, e_feq1, e_fne1, e_feq2, e_fne2, e_seq, e_sne, e_ta1, e_ta2, Nat.zero_add, Nat.add_zero, Bool.not_true, Bool.not_false]
          by_cases k1 : op.kind = 1
          · have e : (op.kind == 1) = true := by simpa using k1
            simp only [e, e_fd, e_nck, e_pkt, e_pkf, e_gdtt, e_gdtf, e_gdft, e_gdff, e_ift, e_iff, e_not, e_ln, e_lnT, e_cp, e_cvi, e_ex20, e_ex21, e_ex30, e_ex31, e_ex32, e_add, e_sub, e_mul, e_quo, e_rem, e_and, e_or, e_xor, e_shl, e_shr, e_eql, e_neq, e_lss, e_leq, e_gtr, e_geq, e_beq, e_bne, e_peq1, e_peq2, e_pne1, e_pne2, e_zeq1, e_zeq2, e_zne1, e_zne2, e_feq1, e_fne1, e_feq2, e_fne2, e_seq, e_sne, e_ta1, e_ta2, Nat.zero_add, Nat.add_zero, Bool.not_true, Bool.not_false]
            obtain ⟨_, h0, h12, hrd⟩ := play_read k1 hc
            obtain ⟨k, hk⟩ : ∃ k : Nat, op.sec = (k : Int) := ⟨op.sec.toNat, by omega⟩
            have hkn : op.sec.toNat = k := by omega
            rw [hkn] at hrd
            obtain ⟨hby, hq⟩ := hbv
            obtain ⟨_, bb, e1, rb, hbb, hnob⟩ := hq.resolve_left (fun q => q.1 k1)
            have hnk := (h.base.dk.now (show k < 12 by omega)).1
            rw [hrd] at e1 rb hby
            have hsv : SecV (Own d m2) w2 bv (some (nowS s k)) := .inr ⟨_, bb, _, [], rfl, e1, Nat.le_refl _, by omega, by rw [List.append_nil]; exact rb, hnob⟩
            have fin : ∀ w', Kp (fun _ => False) w2 w' → ∀ w4, Row w4 lb 48 (vs.set k bv) → Kp (fun b => b = lb) w' w4 → s4_p2 (fun r w' => r = .bool true ∧ Below W.heap.size W w') (fun l' w' => ∃ n', n' < xs.length - j ∧ ∃ (j : Nat) (m : Mem) (s : DS) (vs : List Value) (last : Nat → Option (List Int)), j ≤ xs.length ∧ n' = xs.length - j ∧ l' = [.pointer (some ⟨d, 0, none⟩), .pointer (some ⟨lb, 0, none⟩), v, I xs.length, I j] ∧ St4 W w' d lb m s vs last)
                (.pointer (some ⟨d, 0, none⟩)) (.pointer (some ⟨lb, 0, none⟩)) v (I xs.length) (I j) w4 := by
              intro w' hw' w4 r4 hk4
              exact setk w' w4 k _ _ (hb2.kp' hw') (a2.kp' hw') hk4 r4 (hsv.kp' hw') (fun x hx => by cases hx; exact same k) (fun i _ _ => same i)
            obtain ⟨u, hu, hus⟩ := a2.sec k (by omega)
            refine ld1_r r2 rfl ?_
            refine ⟨⟨by omega, by omega⟩, ?_⟩
            rw [add_mk, hkn, Nat.zero_add, Nat.mul_one]
            refine ld1_r a2.row hu ?_
            have hset : ∀ w', Kp (fun _ => False) w2 w' → fd 1 (.pointer (some ⟨ob, 0, none⟩)) (fun t64 w => ld1 t64 (fun t65 w => ixa 12 1 (.pointer (some ⟨lb, 0, none⟩)) t65 (fun t67 w => st1 t67 bv (fun w => s4_p2 (fun r w' => r = .bool true ∧ Below W.heap.size W w') (fun l' w' => ∃ n', n' < xs.length - j ∧ ∃ (j : Nat) (m : Mem) (s : DS) (vs : List Value) (last : Nat → Option (List Int)), j ≤ xs.length ∧ n' = xs.length - j ∧ l' = [.pointer (some ⟨d, 0, none⟩), .pointer (some ⟨lb, 0, none⟩), v, I xs.length, I j] ∧ St4 W w' d lb m s vs last)
                (.pointer (some ⟨d, 0, none⟩)) (.pointer (some ⟨lb, 0, none⟩)) v (I xs.length) (I j) w) w) w) w) w' := by
              intro w' hw'
              simp only [e_fd, e_nck, e_pkt, e_pkf, e_gdtt, e_gdtf, e_gdft, e_gdff, e_ift, e_iff, e_not, e_ln, e_lnT, e_cp, e_cvi, e_ex20, e_ex21, e_ex30, e_ex31, e_ex32, e_add, e_sub, e_mul, e_quo, e_rem, e_and, e_or, e_xor, e_shl, e_shr, e_eql, e_neq, e_lss, e_leq, e_gtr, e_geq, e_beq, e_bne, e_peq1, e_peq2, e_pne1, e_pne2, e_zeq1, e_zeq2, e_zne1, e_zne2, e_feq1, e_fne1, e_feq2, e_fne2, e_seq, e_sne, e_ta1, e_ta2, Nat.zero_add, Nat.add_zero, Bool.not_true, Bool.not_false]
              refine ld1_r (hw'.row' r2) rfl ?_
              refine ⟨⟨by omega, by omega⟩, ?_⟩
              rw [add_mk, hkn, Nat.zero_add, Nat.mul_one]
              refine st1_r (hw'.row' a2.row) (by rw [a2.len]; omega) hsv.sc fun w4 r4 hk4 hz4 => ?_
              exact fin w' hw' w4 r4 hk4
            cases hl : last k with
            | none =>
              rw [hl] at hus
              rw [hus.nl]
              simp only [e_fd, e_nck, e_pkt, e_pkf, e_gdtt, e_gdtf, e_gdft, e_gdff, e_ift, e_iff, e_not, e_ln, e_lnT, e_cp, e_cvi, e_ex20, e_ex21, e_ex30, e_ex31, e_ex32, e_add, e_sub, e_mul, e_quo, e_rem, e_and, e_or, e_xor, e_shl, e_shr, e_eql, e_neq, e_lss, e_leq, e_gtr, e_geq, e_beq, e_bne, e_peq1, e_peq2, e_pne1, e_pne2, e_zeq1, e_zeq2, e_zne1, e_zne2, e_feq1, e_fne1, e_feq2, e_fne2, e_seq, e_sne, e_ta1, e_ta2, Nat.zero_add, Nat.add_zero, Bool.not_true, Bool.not_false]
              have := hset w2 (Kp.refl _ _)
              simp only [e_fd, e_nck, e_pkt, e_pkf, e_gdtt, e_gdtf, e_gdft, e_gdff, e_ift, e_iff, e_not, e_ln, e_lnT, e_cp, e_cvi, e_ex20, e_ex21, e_ex30, e_ex31, e_ex32, e_add, e_sub, e_mul, e_quo, e_rem, e_and, e_or, e_xor, e_shl, e_shr, e_eql, e_neq, e_lss, e_leq, e_gtr, e_geq, e_beq, e_bne, e_peq1, e_peq2, e_pne1, e_pne2, e_zeq1, e_zeq2, e_zne1, e_zne2, e_feq1, e_fne1, e_feq2, e_fne2, e_seq, e_sne, e_ta1, e_ta2, Nat.zero_add, Nat.add_zero, Bool.not_true, Bool.not_false] at this
              exact this
            | some x =>
              rw [hl] at hus
              obtain ⟨ua, un_, uc, eu⟩ := hus.nn
              have hx := h.now k x (by omega) hl
              have hvu := hus.toVs
              rw [eu] at hvu hu ⊢
              simp only [e_fd, e_nck, e_pkt, e_pkf, e_gdtt, e_gdtf, e_gdft, e_gdff, e_ift, e_iff, e_not, e_ln, e_lnT, e_cp, e_cvi, e_ex20, e_ex21, e_ex30, e_ex31, e_ex32, e_add, e_sub, e_mul, e_quo, e_rem, e_and, e_or, e_xor, e_shl, e_shr, e_eql, e_neq, e_lss, e_leq, e_gtr, e_geq, e_beq, e_bne, e_peq1, e_peq2, e_pne1, e_pne2, e_zeq1, e_zeq2, e_zne1, e_zne2, e_feq1, e_fne1, e_feq2, e_fne2, e_seq, e_sne, e_ta1, e_ta2, Nat.zero_add, Nat.add_zero, Bool.not_true, Bool.not_false]
              refine ld1_r r2 rfl ?_
              refine ⟨⟨by omega, by omega⟩, ?_⟩
              rw [add_mk, hkn, Nat.zero_add, Nat.mul_one]
              refine ld1_r a2.row hu ?_
              rw [← hx] at hvu
              refine sameBytes_ok hsv.toVs hvu fun w3 hk3 => ?_
              simp only [e_fd, e_nck, e_pkt, e_pkf, e_gdtt, e_gdtf, e_gdft, e_gdff, e_ift, e_iff, e_not, e_ln, e_lnT, e_cp, e_cvi, e_ex20, e_ex21, e_ex30, e_ex31, e_ex32, e_add, e_sub, e_mul, e_quo, e_rem, e_and, e_or, e_xor, e_shl, e_shr, e_eql, e_neq, e_lss, e_leq, e_gtr, e_geq, e_beq, e_bne, e_peq1, e_peq2, e_pne1, e_pne2, e_zeq1, e_zeq2, e_zne1, e_zne2, e_feq1, e_fne1, e_feq2, e_fne2, e_seq, e_sne, e_ta1, e_ta2, Nat.zero_add, Nat.add_zero, Bool.not_true, Bool.not_false]
              have := hset w3 hk3
              simp only [e_fd, e_nck, e_pkt, e_pkf, e_gdtt, e_gdtf, e_gdft, e_gdff, e_ift, e_iff, e_not, e_ln, e_lnT, e_cp, e_cvi, e_ex20, e_ex21, e_ex30, e_ex31, e_ex32, e_add, e_sub, e_mul, e_quo, e_rem, e_and, e_or, e_xor, e_shl, e_shr, e_eql, e_neq, e_lss, e_leq, e_gtr, e_geq, e_beq, e_bne, e_peq1, e_peq2, e_pne1, e_pne2, e_zeq1, e_zeq2, e_zne1, e_zne2, e_feq1, e_fne1, e_feq2, e_fne2, e_seq, e_sne, e_ta1, e_ta2, Nat.zero_add, Nat.add_zero, Bool.not_true, Bool.not_false] at this
              exact this
          · have e : (op.kind == 1) = false := by simpa using k1
            simp only [e, e_fd, e_nck, e_pkt, e_pkf, e_gdtt, e_gdtf, e_gdft, e_gdff, e_ift, e_iff, e_not, e_ln, e_lnT, e_cp, e_cvi, e_ex20, e_ex21, e_ex30, e_ex31, e_ex32, e_add, e_sub, e_mul, e_quo, e_rem, e_and, e_or, e_xor, e_shl, e_shr, e_eql, e_neq, e_lss, e_leq, e_gtr, e_geq, e_beq, e_bne, e_peq1, e_peq2, e_pne1, e_pne2, e_zeq1, e_zeq2, e_zne1, e_zne2, e_feq1, e_fne1, e_feq2, e_fne2, e_seq, e_sne, e_ta1, e_ta2, Nat.zero_add, Nat.add_zero, Bool.not_true, Bool.not_false]
            exact next w2 vs last ⟨hb2, a2, h.lfar, fun i x hi hx => by rw [same]; exact h.now i x hi hx⟩
      · have e : ((playS s op).1 != 0) = true := by simpa using hc
        simp only [e, e_fd, e_nck, e_pkt, e_pkf, e_gdtt, e_gdtf, e_gdft, e_gdff, e_ift, e_iff, e_not, e_ln, e_lnT, e_cp, e_cvi, e_ex20, e_ex21, e_ex30, e_ex31, e_ex32, e_add, e_sub, e_mul, e_quo, e_rem, e_and, e_or, e_xor, e_shl, e_shr, e_eql, e_neq, e_lss, e_leq, e_gtr, e_geq, e_beq, e_bne, e_peq1, e_peq2, e_pne1, e_pne2, e_zeq1, e_zeq2, e_zne1, e_zne2, e_feq1, e_fne1, e_feq2, e_fne2, e_seq, e_sne, e_ta1, e_ta2, Nat.zero_add, Nat.add_zero, Bool.not_true, Bool.not_false]
        refine next w2 vs last ⟨hb2, a2, h.lfar, fun i x hi hx => ?_⟩
        rw [hnow, if_neg (fun q => hc q.2.1)]
        exact h.now i x hi hx
  · have hlt' : ¬ (j : Int) < (xs.length : Int) := by omega
    simp only [hlt', decide_false, e_fd, e_nck, e_pkt, e_pkf, e_gdtt, e_gdtf, e_gdft, e_gdff, e_ift, e_iff, e_not, e_ln, e_lnT, e_cp, e_cvi, e_ex20, e_ex21, e_ex30, e_ex31, e_ex32, e_add, e_sub, e_mul, e_quo, e_rem, e_and, e_or, e_xor, e_shl, e_shr, e_eql, e_neq, e_lss, e_leq, e_gtr, e_geq, e_beq, e_bne, e_peq1, e_peq2, e_pne1, e_pne2, e_zeq1, e_zeq2, e_zne1, e_zne2, e_feq1, e_fne1, e_feq2, e_fne2, e_seq, e_sne, e_ta1, e_ta2, Nat.zero_add, Nat.add_zero, Bool.not_true, Bool.not_false]
    exact ⟨rfl, h.base.bel⟩

/-- the twelve zero sectors -/
theorem law4_fill (hs : Scr W v xs) (hsm : xs.length ≤ 65536 ∧ ∀ x ∈ xs, x.data.length ≤ 65536 ∧ x.keep.length ≤ 65536) (h : St4 W w d lb m s0 nil12 (fun _ => none)) :
    s4_p12 (fun r w' => r = .bool true ∧ Below W.heap.size W w') v (.pointer (some ⟨d, 0, none⟩)) (.pointer (some ⟨lb, 0, none⟩)) (I 0) w := by
  refine ⟨fun n l w' => ∃ (j : Nat) (vs : List Value) (last : Nat → Option (List Int)), j ≤ 12 ∧ n = 12 - j ∧ l = [v, .pointer (some ⟨d, 0, none⟩), .pointer (some ⟨lb, 0, none⟩), I j] ∧ St4 W w' d lb m s0 vs last,
    12, ⟨0, _, _, by omega, by omega, rfl, h⟩, ?_⟩
  clear h
  rintro n l w ⟨j, vs, last, hj, rfl, rfl, h⟩
  rw [s4_p12_Fe]
  unfold s4_p11
  simp only [e_fd, e_nck, e_pkt, e_pkf, e_gdtt, e_gdtf, e_gdft, e_gdff, e_ift, e_iff, e_not, e_ln, e_lnT, e_cp, e_cvi, e_ex20, e_ex21, e_ex30, e_ex31, e_ex32, e_add, e_sub, e_mul, e_quo, e_rem, e_and, e_or, e_xor, e_shl, e_shr, e_eql, e_neq, e_lss, e_leq, e_gtr, e_geq, e_beq, e_bne, e_peq1, e_peq2, e_pne1, e_pne2, e_zeq1, e_zeq2, e_zne1, e_zne2, e_feq1, e_fne1, e_feq2, e_fne2, e_seq, e_sne, e_ta1, e_ta2, Nat.zero_add, Nat.add_zero, Bool.not_true, Bool.not_false]
  by_cases hlt : j < 12
  · have hlt' : (j : Int) < 12 := by omega
    simp only [hlt', decide_true, e_fd, e_nck, e_pkt, e_pkf, e_gdtt, e_gdtf, e_gdft, e_gdff, e_ift, e_iff, e_not, e_ln, e_lnT, e_cp, e_cvi, e_ex20, e_ex21, e_ex30, e_ex31, e_ex32, e_add, e_sub, e_mul, e_quo, e_rem, e_and, e_or, e_xor, e_shl, e_shr, e_eql, e_neq, e_lss, e_leq, e_gtr, e_geq, e_beq, e_bne, e_peq1, e_peq2, e_pne1, e_pne2, e_zeq1, e_zeq2, e_zne1, e_zne2, e_feq1, e_fne1, e_feq2, e_fne2, e_seq, e_sne, e_ta1, e_ta2, Nat.zero_add, Nat.add_zero, Bool.not_true, Bool.not_false]
    refine mks_r (n := 16) (by decide) (by decide) fun w1 r1 hk1 hz1 => ?_
    have h1 := h.kp' hk1
    refine ⟨⟨by omega, by omega⟩, ?_⟩
    rw [add_mk, show ((j : Int)).toNat = j by omega, Nat.zero_add, Nat.mul_one]
    refine st1_r h1.arr.row (by rw [h1.arr.len]; omega) rfl fun w2 r2 hk2 hz2 => ?_
    try simp only [e_fd, e_nck, e_pkt, e_pkf, e_gdtt, e_gdtf, e_gdft, e_gdff, e_ift, e_iff, e_not, e_ln, e_lnT, e_cp, e_cvi, e_ex20, e_ex21, e_ex30, e_ex31, e_ex32, e_add, e_sub, e_mul, e_quo, e_rem, e_and, e_or, e_xor, e_shl, e_shr, e_eql, e_neq, e_lss, e_leq, e_gtr, e_geq, e_beq, e_bne, e_peq1, e_peq2, e_pne1, e_pne2, e_zeq1, e_zeq2, e_zne1, e_zne2, e_feq1, e_fne1, e_feq2, e_fne2, e_seq, e_sne, e_ta1, e_ta2, Nat.zero_add, Nat.add_zero, Bool.not_true, Bool.not_false]
    rw [wrap64_id (by omega) (by omega)]
    refine ⟨12 - (j + 1), by omega, j + 1, _, _, by omega, rfl, by simp, h1.base.kp hk2 (fun b hb (q : b = lb) => ?_) (fun b (q : b = lb) => by rw [q]; exact h.lfar), h1.arr.set (o := some (List.replicate 16 0)) hk2 r2 (.inr ⟨_, w.heap.size, 16, [], rfl, rfl, by decide, by decide, by simpa using r1, fun q => ?_⟩), h.lfar, fun i x hi hx => ?_⟩
    · subst q; exact h1.base.dk.ntag h1.arr.row (by decide) hb
    · have := h.base.dk.lt q; omega
    · unfold upd at hx
      by_cases e : i = j
      · subst e; rw [if_pos rfl] at hx; cases hx; rfl
      · rw [if_neg e] at hx; exact h.now i x hi hx
  · have hlt' : ¬ (j : Int) < 12 := by omega
    simp only [hlt', decide_false, e_fd, e_nck, e_pkt, e_pkf, e_gdtt, e_gdtf, e_gdft, e_gdff, e_ift, e_iff, e_not, e_ln, e_lnT, e_cp, e_cvi, e_ex20, e_ex21, e_ex30, e_ex31, e_ex32, e_add, e_sub, e_mul, e_quo, e_rem, e_and, e_or, e_xor, e_shl, e_shr, e_eql, e_neq, e_lss, e_leq, e_gtr, e_geq, e_beq, e_bne, e_peq1, e_peq2, e_pne1, e_pne2, e_zeq1, e_zeq2, e_zne1, e_zne2, e_feq1, e_fne1, e_feq2, e_fne2, e_seq, e_sne, e_ta1, e_ta2, Nat.zero_add, Nat.add_zero, Bool.not_true, Bool.not_false]
    exact law4_loop hs hsm h

theorem law4 (hs : Scr W v xs) : cl Try.prog 4 #[v] (fun r w' => r = .bool true ∧ Below W.heap.size W w') W := by
  apply c4
  unfold s4_p13
  refine small_ok hs (Below.refl _ _) fun r hr => ?_
  simp only [e_fd, e_nck, e_pkt, e_pkf, e_gdtt, e_gdtf, e_gdft, e_gdff, e_ift, e_iff, e_not, e_ln, e_lnT, e_cp, e_cvi, e_ex20, e_ex21, e_ex30, e_ex31, e_ex32, e_add, e_sub, e_mul, e_quo, e_rem, e_and, e_or, e_xor, e_shl, e_shr, e_eql, e_neq, e_lss, e_leq, e_gtr, e_geq, e_beq, e_bne, e_peq1, e_peq2, e_pne1, e_pne2, e_zeq1, e_zeq2, e_zne1, e_zne2, e_feq1, e_fne1, e_feq2, e_fne2, e_seq, e_sne, e_ta1, e_ta2, Nat.zero_add, Nat.add_zero, Bool.not_true, Bool.not_false]
  cases r with
  | false =>
    simp only [Bool.not_false, e_fd, e_nck, e_pkt, e_pkf, e_gdtt, e_gdtf, e_gdft, e_gdff, e_ift, e_iff, e_not, e_ln, e_lnT, e_cp, e_cvi, e_ex20, e_ex21, e_ex30, e_ex31, e_ex32, e_add, e_sub, e_mul, e_quo, e_rem, e_and, e_or, e_xor, e_shl, e_shr, e_eql, e_neq, e_lss, e_leq, e_gtr, e_geq, e_beq, e_bne, e_peq1, e_peq2, e_pne1, e_pne2, e_zeq1, e_zeq2, e_zne1, e_zne2, e_feq1, e_fne1, e_feq2, e_fne2, e_seq, e_sne, e_ta1, e_ta2, Nat.zero_add, Nat.add_zero, Bool.not_true, Bool.not_false]
    exact ⟨trivial, Below.refl _ _⟩
  | true =>
    have hr := hr rfl
    simp only [Bool.not_true, e_fd, e_nck, e_pkt, e_pkf, e_gdtt, e_gdtf, e_gdft, e_gdff, e_ift, e_iff, e_not, e_ln, e_lnT, e_cp, e_cvi, e_ex20, e_ex21, e_ex30, e_ex31, e_ex32, e_add, e_sub, e_mul, e_quo, e_rem, e_and, e_or, e_xor, e_shl, e_shr, e_eql, e_neq, e_lss, e_leq, e_gtr, e_geq, e_beq, e_bne, e_peq1, e_peq2, e_pne1, e_pne2, e_zeq1, e_zeq2, e_zne1, e_zne2, e_feq1, e_fne1, e_feq2, e_fne2, e_seq, e_sne, e_ta1, e_ta2, Nat.zero_add, Nat.add_zero, Bool.not_true, Bool.not_false]
    refine fresh_ok fun w1 d m hd hfar hk1 => ?_
    refine nw_r fun w2 r2 hk2 hz2 => ?_
    have hsz := hk1.size
    exact law4_fill hs hr ⟨⟨hd.kp' hk2, hfar, (hk1.trans hk2).below'⟩, Arr.nil r2, by omega, fun i x _ hx => by cases hx⟩
theorem law4_walk (hs : Scr W v xs) : Calls Try.prog 4 #[v] W fun e w' => e = .returned (.bool true) ∧ Below W.heap.size W w' :=
  Calls.mono (law4 hs) fun e w' ⟨v, he, hv, hb⟩ => ⟨by rw [he, hv], hb⟩
end
end Go.Proofs.Qxb6500895a
