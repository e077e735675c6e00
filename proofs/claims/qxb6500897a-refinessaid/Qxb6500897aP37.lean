import Derived.Test.Qxb6500897aP36
namespace Go.Proofs.Qxb6500897a
open Go.Sh Go.RowKit
set_option linter.unusedVariables false
set_option linter.unusedSimpArgs false

theorem VP.scal {w : World} {fob : Option Nat} {fv : Value} {sob : Option Nat} {sv : Value} {fs : List Int} {its : List It} {lo : Nat} (h : VP w fob fv sob sv fs its lo) : Go.Sh.scal fv = true ∧ Go.Sh.scal sv = true := by
  constructor
  · cases fob with
    | none => have := h.f; rw [this.1]; rfl
    | some q => obtain ⟨_, _, e, _⟩ := h.f; rw [e]; rfl
  · cases sob with
    | none => have := h.s; rw [this.1]; rfl
    | some q => obtain ⟨_, _, e, _⟩ := h.s; rw [e]; rfl

theorem view_st {w : World} {now : Int} {fv sv : Value} {k : Value → World → Prop} (hf : scal fv = true ∧ scal sv = true)
    (hk : ∀ w' b, Row w' b 43 [.bool true, I now, fv, sv] → Kp (fun _ => False) w w' → w.heap.size ≤ b → k (.pointer (some ⟨b, 0, none⟩)) w') :
    nw 43 #[(.bool false), (.int .i64 0), (.slice none 0 0), (.slice none 0 0)] (fun t w => stn 4 t (.agg #[.bool true, I now, fv, sv]) (fun w => k t w) w) w := by
  refine nw_r fun w1 r1 hb1 hz1 => ?_
  refine stn_r (cs := [.bool true, I now, fv, sv]) r1 rfl (Nat.le_of_ble_eq_true rfl) (by show (true && (true && (scal fv && (scal sv && true)))) = true; rw [hf.1, hf.2]; rfl) fun w2 r2 hb2 hz2 => ?_
  exact hk w2 _ r2 (hb1.then hb2 (by intro k hk (e : k = _); omega)) (Nat.le_refl _)

theorem ViewAt.kpS {S : Nat → Prop} {w w' : World} {val : Value} {vw : Vw} {lo : Nat} (h : ViewAt w val vw lo) (hk : Kp S w w') (hS : ∀ k, S k → k < lo ∨ ∃ t l, Row w k t l ∧ t ≠ 3 ∧ t ≠ 67 ∧ t ≠ 61) : ViewAt w' val vw lo := by
  obtain ⟨fob, fv, sob, sv, its, h1, h2, h3⟩ := h
  exact ⟨fob, fv, sob, sv, its, h1, h2.kpS hk hS, h3⟩
theorem ViewAt.kp {w w' : World} {val : Value} {vw : Vw} {lo : Nat} (h : ViewAt w val vw lo) (hk : Kp (fun _ => False) w w') : ViewAt w' val vw lo := h.kpS hk fun _ hs => hs.elim

theorem rlen_le (a : Nat) : rlen a ≤ 22 := by
  have := pa_bd a
  have hdw : (pa a).dwell = dw a := rfl
  unfold rlen; omega

theorem same_vw {w : World} {v1 v2 : Value} {now : Int} {L : List Ent} {lo1 lo2 : Nat} {K : Value → World → Prop} (h1 : ViewAt w v1 (vwOf now L) lo1) (h2 : ViewAt w v2 (vwOf now L) lo2)
    (hK : ∀ w', Kp (fun _ => False) w w' → K (.bool true) w') : cl Try.prog 19 #[v1, v2] K w := by
  refine same_ok h1 h2 (by simp [vwOf]) (by simp [vwOf]) ?_ hK
  intro r hr
  obtain ⟨a, _, rfl⟩ := List.mem_map.1 hr
  unfold rowOf
  rw [rowTo_length]
  have := rlen_le a
  omega

theorem stepP_now (now : Int) (ts : List Tab) (o : Op) (h : (stepP now ts o).code ≠ 0 ∨ o.kind ≠ 2) : (stepP now ts o).now = now := by
  unfold stepP at h ⊢
  by_cases k2 : o.kind = 2
  · rw [if_neg (by omega), if_neg (by omega), if_pos k2] at h ⊢
    rcases h with h | h
    · replace h : advC now o.n ≠ 0 := h
      show advNow now o.n = now
      unfold advNow
      rw [if_neg h]
    · exact absurd k2 h
  · rw [if_neg k2]
    repeat (first | rfl | (split; rfl))

theorem Good.still {now : Int} {ts : List Tab} {L : List Ent} (h : Good now ts L) (o : Op) (hc : (stepP now ts o).code ≠ 0 ∨ (o.kind ≠ 0 ∧ o.kind ≠ 1 ∧ o.kind ≠ 2)) : (stepP now ts o).now = now ∧ stepL now L o = L := by
  rcases hc with hc | ⟨h0, h1, h2⟩
  · exact ⟨stepP_now now ts o (.inl hc), h.refused o hc⟩
  · exact ⟨stepP_now now ts o (.inr h2), by unfold stepL; rw [if_neg h0, if_neg h1]⟩

section
variable {W w : World} {d tb b : Nat} {now : Int} {ts : List Tab} {L : List Ent} {o : Op} {K : Value → World → Prop} {B1 : List Value → World → Prop} {v ln ii : Value}

theorem St.lt (h : St W w d tb now ts L) : d < w.heap.size ∧ ∀ k ∈ blks ts, k < w.heap.size := by
  refine ⟨h.tabs.top.lt, fun k hk => ?_⟩
  obtain ⟨t, ht, e | e⟩ := mem_blks.1 hk
  · rw [e]; exact (h.tabs.occ t ht).lt
  · rw [e]; exact (h.tabs.adm t ht).lt

theorem ref_round (h : St W w d tb now ts L) (hr : Row w b 34 o.cells)
    (hK : ∀ w' now' ts' L', St W w' d tb now' ts' L' → s10_p2 K B1 (ptr d) v ln ii w') :
    cl Try.prog 20 #[ptr d] (fun t21 w => nw 43 #[(.bool false), (.int .i64 0), (.slice none 0 0), (.slice none 0 0)] (fun t6 w => stn 4 t6 t21 (fun w => ldn 6 (ptr b) (fun t24 w => cl Try.prog 17 #[ptr d, t24] (fun t25 w =>
      exq t25 0 (fun t26 w => exq t25 1 (fun t27 w => fd 0 (ptr b) (fun t28 w => ld1 t28 (fun t29 w => boI .eql t29 (.int .i64 0) (fun t30 w =>
      gd t30 false (fd 0 (ptr b)) (fun t32 w => gd t30 false (ld1 t32) (fun t33 w => gd t30 false (boI .eql t33 (.int .i64 1)) (fun t34 w => pk t30 (.bool true) t34 (fun t35 w =>
      gd t35 false (fd 0 (ptr b)) (fun t37 w => gd t35 false (ld1 t37) (fun t38 w => gd t35 false (boI .eql t38 (.int .i64 2)) (fun t39 w => pk t35 (.bool true) t39 (fun t40 w =>
      s10_p4 K B1 (ptr d) t6 t26 t40 v ln ii w) w) w) w) w) w) w) w) w) w) w) w) w) w) w) w) w) w) w := by
  refine look_ok h fun w1 val hv1 hk1 => ?_
  obtain ⟨fob, fv, sob, sv, its, rfl, hV, hcs⟩ := hv1
  refine view_st hV.scal fun w2 vb rv2 hk2 hvb => ?_
  have hV2 := hV.kp hk2
  have h2 := (h.kp hk1).kp hk2
  have hr2 := hk2.row' (hk1.row' hr)
  refine ldn_r hr2 (Nat.le_of_ble_eq_true rfl) ?_
  refine play_st (o := o) h2 fun w3 h3 hk3 => ?_
  have hr3 := h2.tabs.notP hr2 (by decide) (by decide) (by decide) hk3
  have rv3 := h2.tabs.notP rv2 (by decide) (by decide) (by decide) hk3
  have hlt := h.lt
  have hV3 : VP w3 fob fv sob sv _ its w.heap.size := hV2.kpS hk3 fun k e => .inl (by rcases e with e | e; rw [e]; exact hlt.1; exact hlt.2 k e)
  -- the end of the round
  have fin : ∀ ch : Bool, (ch = false → o.kind ≠ 0 ∧ o.kind ≠ 1 ∧ o.kind ≠ 2) → s10_p4 K B1 (ptr d) (ptr vb) (I (stepP now ts o).code) (.bool ch) v ln ii w3 := by
    intro ch hch
    unfold s10_p4 s10_p4_d
    simp only [e_fd, e_nck, e_pkt, e_pkf, e_gdtt, e_gdtf, e_gdft, e_gdff, e_ift, e_iff, e_not, e_ln, e_lnT, e_cp, e_cvi, e_ex20, e_ex21, e_ex30, e_ex31, e_ex32, e_add, e_sub, e_mul, e_quo, e_rem, e_and, e_or, e_xor, e_shl, e_shr, e_eql, e_neq, e_lss, e_leq, e_gtr, e_geq, e_beq, e_bne, e_peq1, e_peq2, e_pne1, e_pne2, e_zeq1, e_zeq2, e_zne1, e_zne2, e_feq1, e_fne1, e_feq2, e_fne2, e_seq, e_sne, e_ta1, e_ta2, Nat.zero_add, Nat.add_zero, Bool.not_true, Bool.not_false]
    have go : (stepP now ts o).code ≠ 0 ∨ ch = false → ldn 4 (ptr vb) (fun t48 x => cl Try.prog 20 #[ptr d] (fun t50 w => Below (drw w3).heap.size (drw w3) w ∧ cl Try.prog 19 #[t48, t50] (fun t51 w => un .not t51 (fun t52 w => s10_p3 K B1 (ptr d) v ln ii t52 w) w) w) (drw w3)) (drw w3) := by
      intro hc
      have hst := h2.good.still o (by rcases hc with q | q; exact .inl q; exact .inr (hch q))
      refine ldn_r rv3.drw (Nat.le_of_ble_eq_true rfl) ?_
      have h3' : St W (drw w3) d tb now (stepP now ts o).ts L := by
        have := h3.kp (kp_drw (w := w3))
        rw [hst.1, hst.2] at this
        exact this
      refine look_ok h3' fun w4 val4 hv4 hk4 => ⟨hk4.below', ?_⟩
      refine same_vw (L := L) (now := now) (lo1 := w.heap.size) ⟨fob, fv, sob, sv, its, rfl, (hV3.kp kp_drw).kp hk4, hcs⟩ hv4 fun w5 hk5 => ?_
      simp only [e_fd, e_nck, e_pkt, e_pkf, e_gdtt, e_gdtf, e_gdft, e_gdff, e_ift, e_iff, e_not, e_ln, e_lnT, e_cp, e_cvi, e_ex20, e_ex21, e_ex30, e_ex31, e_ex32, e_add, e_sub, e_mul, e_quo, e_rem, e_and, e_or, e_xor, e_shl, e_shr, e_eql, e_neq, e_lss, e_leq, e_gtr, e_geq, e_beq, e_bne, e_peq1, e_peq2, e_pne1, e_pne2, e_zeq1, e_zeq2, e_zne1, e_zne2, e_feq1, e_fne1, e_feq2, e_fne2, e_seq, e_sne, e_ta1, e_ta2, Nat.zero_add, Nat.add_zero, Bool.not_true, Bool.not_false, Bool.not_true]
      unfold s10_p3
      simp only [e_fd, e_nck, e_pkt, e_pkf, e_gdtt, e_gdtf, e_gdft, e_gdff, e_ift, e_iff, e_not, e_ln, e_lnT, e_cp, e_cvi, e_ex20, e_ex21, e_ex30, e_ex31, e_ex32, e_add, e_sub, e_mul, e_quo, e_rem, e_and, e_or, e_xor, e_shl, e_shr, e_eql, e_neq, e_lss, e_leq, e_gtr, e_geq, e_beq, e_bne, e_peq1, e_peq2, e_pne1, e_pne2, e_zeq1, e_zeq2, e_zne1, e_zne2, e_feq1, e_fne1, e_feq2, e_fne2, e_seq, e_sne, e_ta1, e_ta2, Nat.zero_add, Nat.add_zero, Bool.not_true, Bool.not_false]
      exact hK _ _ _ _ ((h3'.kp hk4).kp hk5)
    by_cases hc : (stepP now ts o).code = 0
    · have ec : ((stepP now ts o).code != 0) = false := by simpa using hc
      simp only [ec, e_fd, e_nck, e_pkt, e_pkf, e_gdtt, e_gdtf, e_gdft, e_gdff, e_ift, e_iff, e_not, e_ln, e_lnT, e_cp, e_cvi, e_ex20, e_ex21, e_ex30, e_ex31, e_ex32, e_add, e_sub, e_mul, e_quo, e_rem, e_and, e_or, e_xor, e_shl, e_shr, e_eql, e_neq, e_lss, e_leq, e_gtr, e_geq, e_beq, e_bne, e_peq1, e_peq2, e_pne1, e_pne2, e_zeq1, e_zeq2, e_zne1, e_zne2, e_feq1, e_fne1, e_feq2, e_fne2, e_seq, e_sne, e_ta1, e_ta2, Nat.zero_add, Nat.add_zero, Bool.not_true, Bool.not_false]
      cases ch with
      | true =>
        simp only [e_fd, e_nck, e_pkt, e_pkf, e_gdtt, e_gdtf, e_gdft, e_gdff, e_ift, e_iff, e_not, e_ln, e_lnT, e_cp, e_cvi, e_ex20, e_ex21, e_ex30, e_ex31, e_ex32, e_add, e_sub, e_mul, e_quo, e_rem, e_and, e_or, e_xor, e_shl, e_shr, e_eql, e_neq, e_lss, e_leq, e_gtr, e_geq, e_beq, e_bne, e_peq1, e_peq2, e_pne1, e_pne2, e_zeq1, e_zeq2, e_zne1, e_zne2, e_feq1, e_fne1, e_feq2, e_fne2, e_seq, e_sne, e_ta1, e_ta2, Nat.zero_add, Nat.add_zero, Bool.not_true, Bool.not_false, Bool.not_true]
        unfold s10_p3
        simp only [e_fd, e_nck, e_pkt, e_pkf, e_gdtt, e_gdtf, e_gdft, e_gdff, e_ift, e_iff, e_not, e_ln, e_lnT, e_cp, e_cvi, e_ex20, e_ex21, e_ex30, e_ex31, e_ex32, e_add, e_sub, e_mul, e_quo, e_rem, e_and, e_or, e_xor, e_shl, e_shr, e_eql, e_neq, e_lss, e_leq, e_gtr, e_geq, e_beq, e_bne, e_peq1, e_peq2, e_pne1, e_pne2, e_zeq1, e_zeq2, e_zne1, e_zne2, e_feq1, e_fne1, e_feq2, e_fne2, e_seq, e_sne, e_ta1, e_ta2, Nat.zero_add, Nat.add_zero, Bool.not_true, Bool.not_false]
        exact ⟨Below.refl _ _, hK _ _ _ _ (h3.kp kp_drw)⟩
      | false =>
        simp only [e_fd, e_nck, e_pkt, e_pkf, e_gdtt, e_gdtf, e_gdft, e_gdff, e_ift, e_iff, e_not, e_ln, e_lnT, e_cp, e_cvi, e_ex20, e_ex21, e_ex30, e_ex31, e_ex32, e_add, e_sub, e_mul, e_quo, e_rem, e_and, e_or, e_xor, e_shl, e_shr, e_eql, e_neq, e_lss, e_leq, e_gtr, e_geq, e_beq, e_bne, e_peq1, e_peq2, e_pne1, e_pne2, e_zeq1, e_zeq2, e_zne1, e_zne2, e_feq1, e_fne1, e_feq2, e_fne2, e_seq, e_sne, e_ta1, e_ta2, Nat.zero_add, Nat.add_zero, Bool.not_true, Bool.not_false, Bool.not_false]
        exact go (.inr rfl)
    · have ec : ((stepP now ts o).code != 0) = true := by simpa using hc
      simp only [ec, e_fd, e_nck, e_pkt, e_pkf, e_gdtt, e_gdtf, e_gdft, e_gdff, e_ift, e_iff, e_not, e_ln, e_lnT, e_cp, e_cvi, e_ex20, e_ex21, e_ex30, e_ex31, e_ex32, e_add, e_sub, e_mul, e_quo, e_rem, e_and, e_or, e_xor, e_shl, e_shr, e_eql, e_neq, e_lss, e_leq, e_gtr, e_geq, e_beq, e_bne, e_peq1, e_peq2, e_pne1, e_pne2, e_zeq1, e_zeq2, e_zne1, e_zne2, e_feq1, e_fne1, e_feq2, e_fne2, e_seq, e_sne, e_ta1, e_ta2, Nat.zero_add, Nat.add_zero, Bool.not_true, Bool.not_false]
      exact go (.inl hc)
  unfold ptr at fin ⊢
  simp only [e_fd, e_nck, e_pkt, e_pkf, e_gdtt, e_gdtf, e_gdft, e_gdff, e_ift, e_iff, e_not, e_ln, e_lnT, e_cp, e_cvi, e_ex20, e_ex21, e_ex30, e_ex31, e_ex32, e_add, e_sub, e_mul, e_quo, e_rem, e_and, e_or, e_xor, e_shl, e_shr, e_eql, e_neq, e_lss, e_leq, e_gtr, e_geq, e_beq, e_bne, e_peq1, e_peq2, e_pne1, e_pne2, e_zeq1, e_zeq2, e_zne1, e_zne2, e_feq1, e_fne1, e_feq2, e_fne2, e_seq, e_sne, e_ta1, e_ta2, Nat.zero_add, Nat.add_zero, Bool.not_true, Bool.not_false]
  refine ld1_r hr3 rfl ?_
  simp only [e_fd, e_nck, e_pkt, e_pkf, e_gdtt, e_gdtf, e_gdft, e_gdff, e_ift, e_iff, e_not, e_ln, e_lnT, e_cp, e_cvi, e_ex20, e_ex21, e_ex30, e_ex31, e_ex32, e_add, e_sub, e_mul, e_quo, e_rem, e_and, e_or, e_xor, e_shl, e_shr, e_eql, e_neq, e_lss, e_leq, e_gtr, e_geq, e_beq, e_bne, e_peq1, e_peq2, e_pne1, e_pne2, e_zeq1, e_zeq2, e_zne1, e_zne2, e_feq1, e_fne1, e_feq2, e_fne2, e_seq, e_sne, e_ta1, e_ta2, Nat.zero_add, Nat.add_zero, Bool.not_true, Bool.not_false]
  by_cases k0 : o.kind = 0
  · have e : (o.kind == 0) = true := by simpa using k0
    simp only [e, e_fd, e_nck, e_pkt, e_pkf, e_gdtt, e_gdtf, e_gdft, e_gdff, e_ift, e_iff, e_not, e_ln, e_lnT, e_cp, e_cvi, e_ex20, e_ex21, e_ex30, e_ex31, e_ex32, e_add, e_sub, e_mul, e_quo, e_rem, e_and, e_or, e_xor, e_shl, e_shr, e_eql, e_neq, e_lss, e_leq, e_gtr, e_geq, e_beq, e_bne, e_peq1, e_peq2, e_pne1, e_pne2, e_zeq1, e_zeq2, e_zne1, e_zne2, e_feq1, e_fne1, e_feq2, e_fne2, e_seq, e_sne, e_ta1, e_ta2, Nat.zero_add, Nat.add_zero, Bool.not_true, Bool.not_false]
    exact fin true (by simp)
  · have e : (o.kind == 0) = false := by simpa using k0
    simp only [e, e_fd, e_nck, e_pkt, e_pkf, e_gdtt, e_gdtf, e_gdft, e_gdff, e_ift, e_iff, e_not, e_ln, e_lnT, e_cp, e_cvi, e_ex20, e_ex21, e_ex30, e_ex31, e_ex32, e_add, e_sub, e_mul, e_quo, e_rem, e_and, e_or, e_xor, e_shl, e_shr, e_eql, e_neq, e_lss, e_leq, e_gtr, e_geq, e_beq, e_bne, e_peq1, e_peq2, e_pne1, e_pne2, e_zeq1, e_zeq2, e_zne1, e_zne2, e_feq1, e_fne1, e_feq2, e_fne2, e_seq, e_sne, e_ta1, e_ta2, Nat.zero_add, Nat.add_zero, Bool.not_true, Bool.not_false]
    refine ld1_r hr3 rfl ?_
    simp only [e_fd, e_nck, e_pkt, e_pkf, e_gdtt, e_gdtf, e_gdft, e_gdff, e_ift, e_iff, e_not, e_ln, e_lnT, e_cp, e_cvi, e_ex20, e_ex21, e_ex30, e_ex31, e_ex32, e_add, e_sub, e_mul, e_quo, e_rem, e_and, e_or, e_xor, e_shl, e_shr, e_eql, e_neq, e_lss, e_leq, e_gtr, e_geq, e_beq, e_bne, e_peq1, e_peq2, e_pne1, e_pne2, e_zeq1, e_zeq2, e_zne1, e_zne2, e_feq1, e_fne1, e_feq2, e_fne2, e_seq, e_sne, e_ta1, e_ta2, Nat.zero_add, Nat.add_zero, Bool.not_true, Bool.not_false]
    by_cases k1 : o.kind = 1
    · have e : (o.kind == 1) = true := by simpa using k1
      simp only [e, e_fd, e_nck, e_pkt, e_pkf, e_gdtt, e_gdtf, e_gdft, e_gdff, e_ift, e_iff, e_not, e_ln, e_lnT, e_cp, e_cvi, e_ex20, e_ex21, e_ex30, e_ex31, e_ex32, e_add, e_sub, e_mul, e_quo, e_rem, e_and, e_or, e_xor, e_shl, e_shr, e_eql, e_neq, e_lss, e_leq, e_gtr, e_geq, e_beq, e_bne, e_peq1, e_peq2, e_pne1, e_pne2, e_zeq1, e_zeq2, e_zne1, e_zne2, e_feq1, e_fne1, e_feq2, e_fne2, e_seq, e_sne, e_ta1, e_ta2, Nat.zero_add, Nat.add_zero, Bool.not_true, Bool.not_false]
      exact fin true (by simp)
    · have e : (o.kind == 1) = false := by simpa using k1
      simp only [e, e_fd, e_nck, e_pkt, e_pkf, e_gdtt, e_gdtf, e_gdft, e_gdff, e_ift, e_iff, e_not, e_ln, e_lnT, e_cp, e_cvi, e_ex20, e_ex21, e_ex30, e_ex31, e_ex32, e_add, e_sub, e_mul, e_quo, e_rem, e_and, e_or, e_xor, e_shl, e_shr, e_eql, e_neq, e_lss, e_leq, e_gtr, e_geq, e_beq, e_bne, e_peq1, e_peq2, e_pne1, e_pne2, e_zeq1, e_zeq2, e_zne1, e_zne2, e_feq1, e_fne1, e_feq2, e_fne2, e_seq, e_sne, e_ta1, e_ta2, Nat.zero_add, Nat.add_zero, Bool.not_true, Bool.not_false]
      refine ld1_r hr3 rfl ?_
      simp only [e_fd, e_nck, e_pkt, e_pkf, e_gdtt, e_gdtf, e_gdft, e_gdff, e_ift, e_iff, e_not, e_ln, e_lnT, e_cp, e_cvi, e_ex20, e_ex21, e_ex30, e_ex31, e_ex32, e_add, e_sub, e_mul, e_quo, e_rem, e_and, e_or, e_xor, e_shl, e_shr, e_eql, e_neq, e_lss, e_leq, e_gtr, e_geq, e_beq, e_bne, e_peq1, e_peq2, e_pne1, e_pne2, e_zeq1, e_zeq2, e_zne1, e_zne2, e_feq1, e_fne1, e_feq2, e_fne2, e_seq, e_sne, e_ta1, e_ta2, Nat.zero_add, Nat.add_zero, Bool.not_true, Bool.not_false]
      exact fin _ (fun q => ⟨k0, k1, by simpa using q⟩)
end

theorem ref_law {W : World} {v : Value} {ops : List Op} (hs : Scr W v ops) : cl Try.prog 10 #[v] (fun r w' => r = .bool true ∧ Below W.heap.size W w') W := by
  apply c10
  unfold s10_p8
  refine small_ok hs ?_
  simp only [e_fd, e_nck, e_pkt, e_pkf, e_gdtt, e_gdtf, e_gdft, e_gdff, e_ift, e_iff, e_not, e_ln, e_lnT, e_cp, e_cvi, e_ex20, e_ex21, e_ex30, e_ex31, e_ex32, e_add, e_sub, e_mul, e_quo, e_rem, e_and, e_or, e_xor, e_shl, e_shr, e_eql, e_neq, e_lss, e_leq, e_gtr, e_geq, e_beq, e_bne, e_peq1, e_peq2, e_pne1, e_pne2, e_zeq1, e_zeq2, e_zne1, e_zne2, e_feq1, e_fne1, e_feq2, e_fne2, e_seq, e_sne, e_ta1, e_ta2, Nat.zero_add, Nat.add_zero, Bool.not_true, Bool.not_false]
  by_cases hsm : ops.length ≤ 65536
  · rw [decide_eq_true hsm]
    simp only [Bool.not_true, e_fd, e_nck, e_pkt, e_pkf, e_gdtt, e_gdtf, e_gdft, e_gdff, e_ift, e_iff, e_not, e_ln, e_lnT, e_cp, e_cvi, e_ex20, e_ex21, e_ex30, e_ex31, e_ex32, e_add, e_sub, e_mul, e_quo, e_rem, e_and, e_or, e_xor, e_shl, e_shr, e_eql, e_neq, e_lss, e_leq, e_gtr, e_geq, e_beq, e_bne, e_peq1, e_peq2, e_pne1, e_pne2, e_zeq1, e_zeq2, e_zne1, e_zne2, e_feq1, e_fne1, e_feq2, e_fne2, e_seq, e_sne, e_ta1, e_ta2, Nat.zero_add, Nat.add_zero, Bool.not_true, Bool.not_false]
    refine fresh_st fun w0 d tb ts0 h0 hk0 hd0 => ?_
    refine hs.ln ?_
    refine ⟨fun m l w => ∃ (i : Nat) (now : Int) (ts : List Tab) (L : List Ent), i ≤ ops.length ∧ m = ops.length - i ∧ l = [ptr d, v, I ops.length, I i] ∧ St W w d tb now ts L,
      ops.length, ⟨0, 0, ts0, [], by omega, by omega, rfl, h0⟩, ?_⟩
    rintro m l w ⟨i, now, ts, L, hi, hm, rfl, h⟩
    rw [s10_p7_Fe]
    unfold s10_p6
    simp only [e_fd, e_nck, e_pkt, e_pkf, e_gdtt, e_gdtf, e_gdft, e_gdff, e_ift, e_iff, e_not, e_ln, e_lnT, e_cp, e_cvi, e_ex20, e_ex21, e_ex30, e_ex31, e_ex32, e_add, e_sub, e_mul, e_quo, e_rem, e_and, e_or, e_xor, e_shl, e_shr, e_eql, e_neq, e_lss, e_leq, e_gtr, e_geq, e_beq, e_bne, e_peq1, e_peq2, e_pne1, e_pne2, e_zeq1, e_zeq2, e_zne1, e_zne2, e_feq1, e_fne1, e_feq2, e_fne2, e_seq, e_sne, e_ta1, e_ta2, Nat.zero_add, Nat.add_zero, Bool.not_true, Bool.not_false]
    by_cases hlt : i < ops.length
    · have hlt' : (i : Int) < (ops.length : Int) := by omega
      simp only [hlt', decide_true, e_fd, e_nck, e_pkt, e_pkf, e_gdtt, e_gdtf, e_gdft, e_gdff, e_ift, e_iff, e_not, e_ln, e_lnT, e_cp, e_cvi, e_ex20, e_ex21, e_ex30, e_ex31, e_ex32, e_add, e_sub, e_mul, e_quo, e_rem, e_and, e_or, e_xor, e_shl, e_shr, e_eql, e_neq, e_lss, e_leq, e_gtr, e_geq, e_beq, e_bne, e_peq1, e_peq2, e_pne1, e_pne2, e_zeq1, e_zeq2, e_zne1, e_zne2, e_feq1, e_fne1, e_feq2, e_fne2, e_seq, e_sne, e_ta1, e_ta2, Nat.zero_add, Nat.add_zero, Bool.not_true, Bool.not_false]
      unfold s10_p5
      refine hs.take h.bel hlt fun w1 b r1 hb1 hbb => ?_
      refine ref_round (o := ops[i]) (h.kp hb1) r1 fun w' now' ts' L' h' => ?_
      unfold s10_p2
      simp only [e_fd, e_nck, e_pkt, e_pkf, e_gdtt, e_gdtf, e_gdft, e_gdff, e_ift, e_iff, e_not, e_ln, e_lnT, e_cp, e_cvi, e_ex20, e_ex21, e_ex30, e_ex31, e_ex32, e_add, e_sub, e_mul, e_quo, e_rem, e_and, e_or, e_xor, e_shl, e_shr, e_eql, e_neq, e_lss, e_leq, e_gtr, e_geq, e_beq, e_bne, e_peq1, e_peq2, e_pne1, e_pne2, e_zeq1, e_zeq2, e_zne1, e_zne2, e_feq1, e_fne1, e_feq2, e_fne2, e_seq, e_sne, e_ta1, e_ta2, Nat.zero_add, Nat.add_zero, Bool.not_true, Bool.not_false]
      rw [wrap64_id (by omega) (by omega)]
      exact ⟨ops.length - (i + 1), by omega, i + 1, now', ts', L', by omega, rfl, by simp, h'⟩
    · have hlt' : ¬ (i : Int) < (ops.length : Int) := by omega
      simp only [hlt', decide_false, e_fd, e_nck, e_pkt, e_pkf, e_gdtt, e_gdtf, e_gdft, e_gdff, e_ift, e_iff, e_not, e_ln, e_lnT, e_cp, e_cvi, e_ex20, e_ex21, e_ex30, e_ex31, e_ex32, e_add, e_sub, e_mul, e_quo, e_rem, e_and, e_or, e_xor, e_shl, e_shr, e_eql, e_neq, e_lss, e_leq, e_gtr, e_geq, e_beq, e_bne, e_peq1, e_peq2, e_pne1, e_pne2, e_zeq1, e_zeq2, e_zne1, e_zne2, e_feq1, e_fne1, e_feq2, e_fne2, e_seq, e_sne, e_ta1, e_ta2, Nat.zero_add, Nat.add_zero, Bool.not_true, Bool.not_false]
      unfold s10_p1
      exact ⟨rfl, h.bel⟩
  · rw [decide_eq_false hsm]
    simp only [Bool.not_false, e_fd, e_nck, e_pkt, e_pkf, e_gdtt, e_gdtf, e_gdft, e_gdff, e_ift, e_iff, e_not, e_ln, e_lnT, e_cp, e_cvi, e_ex20, e_ex21, e_ex30, e_ex31, e_ex32, e_add, e_sub, e_mul, e_quo, e_rem, e_and, e_or, e_xor, e_shl, e_shr, e_eql, e_neq, e_lss, e_leq, e_gtr, e_geq, e_beq, e_bne, e_peq1, e_peq2, e_pne1, e_pne2, e_zeq1, e_zeq2, e_zne1, e_zne2, e_feq1, e_fne1, e_feq2, e_fne2, e_seq, e_sne, e_ta1, e_ta2, Nat.zero_add, Nat.add_zero, Bool.not_true, Bool.not_false]
    exact ⟨trivial, Below.refl _ _⟩

theorem ref_walk {W : World} {v : Value} {ops : List Op} (hs : Scr W v ops) : Calls Try.prog 10 #[v] W fun e w' => e = .returned (.bool true) ∧ Below W.heap.size W w' :=
  Calls.mono (ref_law hs) fun e w' ⟨v, he, hv, hb⟩ => ⟨by rw [he, hv], hb⟩
end Go.Proofs.Qxb6500897a
