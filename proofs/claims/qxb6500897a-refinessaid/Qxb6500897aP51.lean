import Derived.Test.Qxb6500897aP50
namespace Go.Proofs.Qxb6500897a
open Go.Sh Go.RowKit
set_option linter.unusedVariables false
set_option linter.unusedSimpArgs false

/-- the model's memory alone -/
structure ModM (w : World) (m ab : Nat) (now : Int) (L : List Ent) (ob : Option Nat) (lv : Value) : Prop where
  top : Row w m 48 [I 6, I 90, .slice (some ⟨ab, 0, none⟩) 4 4, I now, lv]
  atts : Row w ab 59 (rows Att.cells parkA)
  led : Sl mc 4 w 105 ob lv L

theorem chkP_args {now attr slot cls n : Int} {r : Nat} : chkP now attr slot cls n r = if argsP attr cls n = 0 then (if slot < now - (if r = 0 then 0 else dw attr.toNat - 1) ∨ now + 6 - 1 + (if r = 2 then dw attr.toNat - 1 else 0) < slot then 4 else 0) else argsP attr cls n := by
  unfold chkP argsP
  by_cases h1 : attr < 0 ∨ 4 ≤ attr
  · simp [h1]
  · rw [if_neg h1, if_neg h1]
    by_cases h2 : cls < 0 ∨ 3 ≤ cls
    · simp [h2]
    · rw [if_neg h2, if_neg h2]
      by_cases h3 : n < 1
      · simp [h3]
      · rw [if_neg h3, if_neg h3, if_pos rfl]
theorem argsP_ok {attr cls n : Int} (h : argsP attr cls n = 0) : 0 ≤ attr ∧ attr < 4 ∧ 0 ≤ cls ∧ cls < 3 ∧ 1 ≤ n := by
  unfold argsP at h
  split at h
  · omega
  split at h
  · omega
  split at h
  · omega
  omega

section
variable {w w' : World} {m ab : Nat} {now : Int} {L : List Ent} {ob : Option Nat} {lv : Value} {K : Value → World → Prop}
theorem ModAt.mm (h : ModAt w m ab now L ob lv) : ModM w m ab now L ob lv := ⟨h.top, h.atts, h.led⟩

theorem mfits_ok {attr s cls n : Int} (h : ModAt w m ab now L ob lv) (hK : ∀ w', Kp (fun _ => False) w w' → K (I (mFits now L attr s cls n)) w') : cl Try.prog 55 #[ptr m, I attr, I s, I cls, I n] K w := by
  have n0 := h.inv.n0
  have n1 := h.inv.n1
  apply c55
  unfold s55_p8
  refine args_ok h ?_
  simp only [e_fd, e_nck, e_pkt, e_pkf, e_gdtt, e_gdtf, e_gdft, e_gdff, e_ift, e_iff, e_not, e_ln, e_lnT, e_cp, e_cvi, e_ex20, e_ex21, e_ex30, e_ex31, e_ex32, e_add, e_sub, e_mul, e_quo, e_rem, e_and, e_or, e_xor, e_shl, e_shr, e_eql, e_neq, e_lss, e_leq, e_gtr, e_geq, e_beq, e_bne, e_peq1, e_peq2, e_pne1, e_pne2, e_zeq1, e_zeq2, e_zne1, e_zne2, e_feq1, e_fne1, e_feq2, e_fne2, e_seq, e_sne, e_ta1, e_ta2, Nat.zero_add, Nat.add_zero, Bool.not_true, Bool.not_false]
  unfold mFits at hK
  rw [chkP_args] at hK
  by_cases ha0 : argsP attr cls n = 0
  · have e : (argsP attr cls n != 0) = false := by simpa using ha0
    simp only [e, e_fd, e_nck, e_pkt, e_pkf, e_gdtt, e_gdtf, e_gdft, e_gdff, e_ift, e_iff, e_not, e_ln, e_lnT, e_cp, e_cvi, e_ex20, e_ex21, e_ex30, e_ex31, e_ex32, e_add, e_sub, e_mul, e_quo, e_rem, e_and, e_or, e_xor, e_shl, e_shr, e_eql, e_neq, e_lss, e_leq, e_gtr, e_geq, e_beq, e_bne, e_peq1, e_peq2, e_pne1, e_pne2, e_zeq1, e_zeq2, e_zne1, e_zne2, e_feq1, e_fne1, e_feq2, e_fne2, e_seq, e_sne, e_ta1, e_ta2, Nat.zero_add, Nat.add_zero, Bool.not_true, Bool.not_false]
    rw [if_pos ha0] at hK
    have hk := argsP_ok ha0
    simp only [if_true] at hK
    refine open_ok h fun w1 hk1 => ?_
    have h1 := h.kp hk1
    simp only [e_fd, e_nck, e_pkt, e_pkf, e_gdtt, e_gdtf, e_gdft, e_gdff, e_ift, e_iff, e_not, e_ln, e_lnT, e_cp, e_cvi, e_ex20, e_ex21, e_ex30, e_ex31, e_ex32, e_add, e_sub, e_mul, e_quo, e_rem, e_and, e_or, e_xor, e_shl, e_shr, e_eql, e_neq, e_lss, e_leq, e_gtr, e_geq, e_beq, e_bne, e_peq1, e_peq2, e_pne1, e_pne2, e_zeq1, e_zeq2, e_zne1, e_zne2, e_feq1, e_fne1, e_feq2, e_fne2, e_seq, e_sne, e_ta1, e_ta2, Nat.zero_add, Nat.add_zero, Bool.not_true, Bool.not_false]
    by_cases hop : now ≤ s ∧ s < now + 6
    · rw [decide_eq_true hop]
      simp only [Bool.not_true, e_fd, e_nck, e_pkt, e_pkf, e_gdtt, e_gdtf, e_gdft, e_gdff, e_ift, e_iff, e_not, e_ln, e_lnT, e_cp, e_cvi, e_ex20, e_ex21, e_ex30, e_ex31, e_ex32, e_add, e_sub, e_mul, e_quo, e_rem, e_and, e_or, e_xor, e_shl, e_shr, e_eql, e_neq, e_lss, e_leq, e_gtr, e_geq, e_beq, e_bne, e_peq1, e_peq2, e_pne1, e_pne2, e_zeq1, e_zeq2, e_zne1, e_zne2, e_feq1, e_fne1, e_feq2, e_fne2, e_seq, e_sne, e_ta1, e_ta2, Nat.zero_add, Nat.add_zero, Bool.not_true, Bool.not_false]
      have hK : ∀ w', Kp (fun _ => False) w w' → K (I (fitM L attr.toNat s cls.toNat n)) w' := by
        intro w' hw'
        have := hK w' hw'
        rw [if_neg (show ¬ (s < now - 0 ∨ now + 6 - 1 + (if (0 : Nat) = 2 then dw attr.toNat - 1 else 0) < s) by simp; omega), if_pos rfl] at this
        exact this
      obtain ⟨a, ea⟩ : ∃ a : Nat, attr = (a : Int) := ⟨attr.toNat, by omega⟩
      obtain ⟨c, ec⟩ : ∃ c : Nat, cls = (c : Int) := ⟨cls.toNat, by omega⟩
      subst ea ec
      have et : ((a : Int)).toNat = a := by omega
      have etc : ((c : Int)).toNat = c := by omega
      simp only [et, etc] at hK
      have ha : a < 4 := by omega
      have hc : c < 3 := by omega
      have hb := pa_bd a
      have hdw : (pa a).dwell = dw a := rfl
      have hal : a < parkA.length := ha
      unfold ptr
      simp only [e_fd, e_nck, e_pkt, e_pkf, e_gdtt, e_gdtf, e_gdft, e_gdff, e_ift, e_iff, e_not, e_ln, e_lnT, e_cp, e_cvi, e_ex20, e_ex21, e_ex30, e_ex31, e_ex32, e_add, e_sub, e_mul, e_quo, e_rem, e_and, e_or, e_xor, e_shl, e_shr, e_eql, e_neq, e_lss, e_leq, e_gtr, e_geq, e_beq, e_bne, e_peq1, e_peq2, e_pne1, e_pne2, e_zeq1, e_zeq2, e_zne1, e_zne2, e_feq1, e_fne1, e_feq2, e_fne2, e_seq, e_sne, e_ta1, e_ta2, Nat.zero_add, Nat.add_zero, Bool.not_true, Bool.not_false]
      refine ld1_r h1.top rfl ?_
      refine ixs_r ha ?_
      refine ldn_r h1.atts (rows_le Att.cells_length parkA a hal) ?_
      rw [rows_slice Att.cells_length parkA a hal, parkA_at hal]
      refine nw_r fun w2 r2 hb2 hz2 => ?_
      refine stn_r r2 rfl (Nat.le_of_ble_eq_true rfl) rfl fun w3 r3 hb3 hz3 => ?_
      replace r3 : Row w3 w1.heap.size 59 (pa a).cells := r3
      have hz1 := hk1.size
      have k3 : Kp (fun _ => False) w w3 := (hk1.trans hb2).then hb3 (by intro k hk (e : k = _); omega)
      have h3 := h.kp k3
      generalize w1.heap.size = b12 at *
      refine ⟨fun q l w' => ∃ u : Int, s ≤ u ∧ u ≤ s + dw a ∧ q = (s + dw a - u).toNat ∧ Kp (fun _ => False) w3 w' ∧ l = [ptr m, I a, I s, I c, I n, ptr b12, I u] ∧ ∀ x, s ≤ x → x < u → ins L a (dw a) x ≤ (pa a).cap - n,
        (dw a).toNat, ⟨s, by omega, by omega, by omega, Kp.refl _ _, rfl, fun x _ _ => by omega⟩, ?_⟩
      rintro q l w4 ⟨u, u0, u1, hq, hk4, rfl, hall⟩
      rw [s55_p7_Fe]
      unfold s55_p6 ptr
      simp only [e_fd, e_nck, e_pkt, e_pkf, e_gdtt, e_gdtf, e_gdft, e_gdff, e_ift, e_iff, e_not, e_ln, e_lnT, e_cp, e_cvi, e_ex20, e_ex21, e_ex30, e_ex31, e_ex32, e_add, e_sub, e_mul, e_quo, e_rem, e_and, e_or, e_xor, e_shl, e_shr, e_eql, e_neq, e_lss, e_leq, e_gtr, e_geq, e_beq, e_bne, e_peq1, e_peq2, e_pne1, e_pne2, e_zeq1, e_zeq2, e_zne1, e_zne2, e_feq1, e_fne1, e_feq2, e_fne2, e_seq, e_sne, e_ta1, e_ta2, Nat.zero_add, Nat.add_zero, Bool.not_true, Bool.not_false]
      refine ld1_r (hk4.row' r3) (v := I (dw a)) rfl ?_
      simp only [e_fd, e_nck, e_pkt, e_pkf, e_gdtt, e_gdtf, e_gdft, e_gdff, e_ift, e_iff, e_not, e_ln, e_lnT, e_cp, e_cvi, e_ex20, e_ex21, e_ex30, e_ex31, e_ex32, e_add, e_sub, e_mul, e_quo, e_rem, e_and, e_or, e_xor, e_shl, e_shr, e_eql, e_neq, e_lss, e_leq, e_gtr, e_geq, e_beq, e_bne, e_peq1, e_peq2, e_pne1, e_pne2, e_zeq1, e_zeq2, e_zne1, e_zne2, e_feq1, e_fne1, e_feq2, e_fne2, e_seq, e_sne, e_ta1, e_ta2, Nat.zero_add, Nat.add_zero, Bool.not_true, Bool.not_false]
      rw [wrap64_id (by omega) (by omega)]
      have hkd : Kp (fun _ => False) w3 (drw w4) := hk4.trans kp_drw
      by_cases hlu : u < s + dw a
      · simp only [hlu, decide_true, e_fd, e_nck, e_pkt, e_pkf, e_gdtt, e_gdtf, e_gdft, e_gdff, e_ift, e_iff, e_not, e_ln, e_lnT, e_cp, e_cvi, e_ex20, e_ex21, e_ex30, e_ex31, e_ex32, e_add, e_sub, e_mul, e_quo, e_rem, e_and, e_or, e_xor, e_shl, e_shr, e_eql, e_neq, e_lss, e_leq, e_gtr, e_geq, e_beq, e_bne, e_peq1, e_peq2, e_pne1, e_pne2, e_zeq1, e_zeq2, e_zne1, e_zne2, e_feq1, e_fne1, e_feq2, e_fne2, e_seq, e_sne, e_ta1, e_ta2, Nat.zero_add, Nat.add_zero, Bool.not_true, Bool.not_false]
        unfold s55_p5 s55_p5_d
        simp only [e_fd, e_nck, e_pkt, e_pkf, e_gdtt, e_gdtf, e_gdft, e_gdff, e_ift, e_iff, e_not, e_ln, e_lnT, e_cp, e_cvi, e_ex20, e_ex21, e_ex30, e_ex31, e_ex32, e_add, e_sub, e_mul, e_quo, e_rem, e_and, e_or, e_xor, e_shl, e_shr, e_eql, e_neq, e_lss, e_leq, e_gtr, e_geq, e_beq, e_bne, e_peq1, e_peq2, e_pne1, e_pne2, e_zeq1, e_zeq2, e_zne1, e_zne2, e_feq1, e_fne1, e_feq2, e_fne2, e_seq, e_sne, e_ta1, e_ta2, Nat.zero_add, Nat.add_zero, Bool.not_true, Bool.not_false]
        refine ld1_r (hkd.row' r3) rfl ?_
        refine inside_ok (h3.kp hkd) ha fun w5 hk5 => ⟨hk5.below', ?_⟩
        have hii := h.inv.ii a u
        simp only [e_fd, e_nck, e_pkt, e_pkf, e_gdtt, e_gdtf, e_gdft, e_gdff, e_ift, e_iff, e_not, e_ln, e_lnT, e_cp, e_cvi, e_ex20, e_ex21, e_ex30, e_ex31, e_ex32, e_add, e_sub, e_mul, e_quo, e_rem, e_and, e_or, e_xor, e_shl, e_shr, e_eql, e_neq, e_lss, e_leq, e_gtr, e_geq, e_beq, e_bne, e_peq1, e_peq2, e_pne1, e_pne2, e_zeq1, e_zeq2, e_zne1, e_zne2, e_feq1, e_fne1, e_feq2, e_fne2, e_seq, e_sne, e_ta1, e_ta2, Nat.zero_add, Nat.add_zero, Bool.not_true, Bool.not_false]
        rw [wrap64_id (by omega) (by omega)]
        refine ⟨hk5.below', ?_⟩
        unfold s55_p4
        by_cases hgt : (pa a).cap - ins L a (dw a) u < n
        · simp only [hgt, decide_true, e_fd, e_nck, e_pkt, e_pkf, e_gdtt, e_gdtf, e_gdft, e_gdff, e_ift, e_iff, e_not, e_ln, e_lnT, e_cp, e_cvi, e_ex20, e_ex21, e_ex30, e_ex31, e_ex32, e_add, e_sub, e_mul, e_quo, e_rem, e_and, e_or, e_xor, e_shl, e_shr, e_eql, e_neq, e_lss, e_leq, e_gtr, e_geq, e_beq, e_bne, e_peq1, e_peq2, e_pne1, e_pne2, e_zeq1, e_zeq2, e_zne1, e_zne2, e_feq1, e_fne1, e_feq2, e_fne2, e_seq, e_sne, e_ta1, e_ta2, Nat.zero_add, Nat.add_zero, Bool.not_true, Bool.not_false]
          have ef : fitM L a s c n = 5 := by
            unfold fitM
            rw [if_neg]
            intro qq
            have := all_range.1 qq u u0 (by omega)
            omega
          rw [ef] at hK
          exact hK w5 (k3.trans (hkd.trans hk5))
        · simp only [hgt, decide_false, e_fd, e_nck, e_pkt, e_pkf, e_gdtt, e_gdtf, e_gdft, e_gdff, e_ift, e_iff, e_not, e_ln, e_lnT, e_cp, e_cvi, e_ex20, e_ex21, e_ex30, e_ex31, e_ex32, e_add, e_sub, e_mul, e_quo, e_rem, e_and, e_or, e_xor, e_shl, e_shr, e_eql, e_neq, e_lss, e_leq, e_gtr, e_geq, e_beq, e_bne, e_peq1, e_peq2, e_pne1, e_pne2, e_zeq1, e_zeq2, e_zne1, e_zne2, e_feq1, e_fne1, e_feq2, e_fne2, e_seq, e_sne, e_ta1, e_ta2, Nat.zero_add, Nat.add_zero, Bool.not_true, Bool.not_false]
          unfold s55_p3
          simp only [e_fd, e_nck, e_pkt, e_pkf, e_gdtt, e_gdtf, e_gdft, e_gdff, e_ift, e_iff, e_not, e_ln, e_lnT, e_cp, e_cvi, e_ex20, e_ex21, e_ex30, e_ex31, e_ex32, e_add, e_sub, e_mul, e_quo, e_rem, e_and, e_or, e_xor, e_shl, e_shr, e_eql, e_neq, e_lss, e_leq, e_gtr, e_geq, e_beq, e_bne, e_peq1, e_peq2, e_pne1, e_pne2, e_zeq1, e_zeq2, e_zne1, e_zne2, e_feq1, e_fne1, e_feq2, e_fne2, e_seq, e_sne, e_ta1, e_ta2, Nat.zero_add, Nat.add_zero, Bool.not_true, Bool.not_false]
          rw [wrap64_id (by omega) (by omega)]
          refine ⟨(s + dw a - (u + 1)).toNat, by omega, u + 1, by omega, by omega, rfl, hkd.trans hk5, by simp [ptr], fun x x0 x1 => ?_⟩
          by_cases e : x = u
          · rw [e]; omega
          · exact hall x x0 (by omega)
      · simp only [hlu, decide_false, e_fd, e_nck, e_pkt, e_pkf, e_gdtt, e_gdtf, e_gdft, e_gdff, e_ift, e_iff, e_not, e_ln, e_lnT, e_cp, e_cvi, e_ex20, e_ex21, e_ex30, e_ex31, e_ex32, e_add, e_sub, e_mul, e_quo, e_rem, e_and, e_or, e_xor, e_shl, e_shr, e_eql, e_neq, e_lss, e_leq, e_gtr, e_geq, e_beq, e_bne, e_peq1, e_peq2, e_pne1, e_pne2, e_zeq1, e_zeq2, e_zne1, e_zne2, e_feq1, e_fne1, e_feq2, e_fne2, e_seq, e_sne, e_ta1, e_ta2, Nat.zero_add, Nat.add_zero, Bool.not_true, Bool.not_false]
        have : u = s + dw a := by omega
        subst this
        unfold s55_p2 s55_p2_d
        simp only [e_fd, e_nck, e_pkt, e_pkf, e_gdtt, e_gdtf, e_gdft, e_gdff, e_ift, e_iff, e_not, e_ln, e_lnT, e_cp, e_cvi, e_ex20, e_ex21, e_ex30, e_ex31, e_ex32, e_add, e_sub, e_mul, e_quo, e_rem, e_and, e_or, e_xor, e_shl, e_shr, e_eql, e_neq, e_lss, e_leq, e_gtr, e_geq, e_beq, e_bne, e_peq1, e_peq2, e_pne1, e_pne2, e_zeq1, e_zeq2, e_zne1, e_zne2, e_feq1, e_fne1, e_feq2, e_fne2, e_seq, e_sne, e_ta1, e_ta2, Nat.zero_add, Nat.add_zero, Bool.not_true, Bool.not_false]
        refine ixa_r hc ?_
        refine ld1_r (hkd.row' r3) (v := I ((pa a).q c)) (by
          match c, hc with
          | 0, _ => rfl
          | 1, _ => rfl
          | 2, _ => rfl) ?_
        refine entered_ok (h3.kp hkd) fun w5 hk5 => ⟨hk5.below', ?_⟩
        have hen := h.inv.en a s c hc
        have hq := hb.2.2.2.2 c
        simp only [e_fd, e_nck, e_pkt, e_pkf, e_gdtt, e_gdtf, e_gdft, e_gdff, e_ift, e_iff, e_not, e_ln, e_lnT, e_cp, e_cvi, e_ex20, e_ex21, e_ex30, e_ex31, e_ex32, e_add, e_sub, e_mul, e_quo, e_rem, e_and, e_or, e_xor, e_shl, e_shr, e_eql, e_neq, e_lss, e_leq, e_gtr, e_geq, e_beq, e_bne, e_peq1, e_peq2, e_pne1, e_pne2, e_zeq1, e_zeq2, e_zne1, e_zne2, e_feq1, e_fne1, e_feq2, e_fne2, e_seq, e_sne, e_ta1, e_ta2, Nat.zero_add, Nat.add_zero, Bool.not_true, Bool.not_false]
        rw [wrap64_id (by omega) (by omega)]
        refine ⟨hk5.below', ?_⟩
        unfold s55_p1
        have ef : fitM L a s c n = if (pa a).q c - ent L a s c < n then 6 else 0 := by
          unfold fitM
          rw [if_pos (all_range.2 hall)]
        rw [ef] at hK
        by_cases hgt : (pa a).q c - ent L a s c < n
        · simp only [hgt, decide_true, e_fd, e_nck, e_pkt, e_pkf, e_gdtt, e_gdtf, e_gdft, e_gdff, e_ift, e_iff, e_not, e_ln, e_lnT, e_cp, e_cvi, e_ex20, e_ex21, e_ex30, e_ex31, e_ex32, e_add, e_sub, e_mul, e_quo, e_rem, e_and, e_or, e_xor, e_shl, e_shr, e_eql, e_neq, e_lss, e_leq, e_gtr, e_geq, e_beq, e_bne, e_peq1, e_peq2, e_pne1, e_pne2, e_zeq1, e_zeq2, e_zne1, e_zne2, e_feq1, e_fne1, e_feq2, e_fne2, e_seq, e_sne, e_ta1, e_ta2, Nat.zero_add, Nat.add_zero, Bool.not_true, Bool.not_false]
          rw [if_pos hgt] at hK
          exact hK w5 (k3.trans (hkd.trans hk5))
        · simp only [hgt, decide_false, e_fd, e_nck, e_pkt, e_pkf, e_gdtt, e_gdtf, e_gdft, e_gdff, e_ift, e_iff, e_not, e_ln, e_lnT, e_cp, e_cvi, e_ex20, e_ex21, e_ex30, e_ex31, e_ex32, e_add, e_sub, e_mul, e_quo, e_rem, e_and, e_or, e_xor, e_shl, e_shr, e_eql, e_neq, e_lss, e_leq, e_gtr, e_geq, e_beq, e_bne, e_peq1, e_peq2, e_pne1, e_pne2, e_zeq1, e_zeq2, e_zne1, e_zne2, e_feq1, e_fne1, e_feq2, e_fne2, e_seq, e_sne, e_ta1, e_ta2, Nat.zero_add, Nat.add_zero, Bool.not_true, Bool.not_false]
          rw [if_neg hgt] at hK
          exact hK w5 (k3.trans (hkd.trans hk5))
    · rw [decide_eq_false hop]
      simp only [Bool.not_false, e_fd, e_nck, e_pkt, e_pkf, e_gdtt, e_gdtf, e_gdft, e_gdff, e_ift, e_iff, e_not, e_ln, e_lnT, e_cp, e_cvi, e_ex20, e_ex21, e_ex30, e_ex31, e_ex32, e_add, e_sub, e_mul, e_quo, e_rem, e_and, e_or, e_xor, e_shl, e_shr, e_eql, e_neq, e_lss, e_leq, e_gtr, e_geq, e_beq, e_bne, e_peq1, e_peq2, e_pne1, e_pne2, e_zeq1, e_zeq2, e_zne1, e_zne2, e_feq1, e_fne1, e_feq2, e_fne2, e_seq, e_sne, e_ta1, e_ta2, Nat.zero_add, Nat.add_zero, Bool.not_true, Bool.not_false]
      have := hK w1 hk1
      rw [if_pos (show s < now - 0 ∨ now + 6 - 1 + (if (0 : Nat) = 2 then dw attr.toNat - 1 else 0) < s by simp; omega), if_neg (by decide)] at this
      exact this
  · have e : (argsP attr cls n != 0) = true := by simpa using ha0
    simp only [e, e_fd, e_nck, e_pkt, e_pkf, e_gdtt, e_gdtf, e_gdft, e_gdff, e_ift, e_iff, e_not, e_ln, e_lnT, e_cp, e_cvi, e_ex20, e_ex21, e_ex30, e_ex31, e_ex32, e_add, e_sub, e_mul, e_quo, e_rem, e_and, e_or, e_xor, e_shl, e_shr, e_eql, e_neq, e_lss, e_leq, e_gtr, e_geq, e_beq, e_bne, e_peq1, e_peq2, e_pne1, e_pne2, e_zeq1, e_zeq2, e_zne1, e_zne2, e_feq1, e_fne1, e_feq2, e_fne2, e_seq, e_sne, e_ta1, e_ta2, Nat.zero_add, Nat.add_zero, Bool.not_true, Bool.not_false]
    rw [if_neg ha0, if_neg ha0] at hK
    exact hK w (Kp.refl _ _)

/-- an entry goes onto the ledger -/
theorem led_add {e : Ent} {k : World → Prop} (h : ModAt w m ab now L ob lv) (hl : L.length + 1 ≤ 65536)
    (hk : ∀ w' ob' lv', ModM w' m ab now (L ++ [e]) ob' lv' → (ob' = ob ∨ ∃ b, ob' = some b ∧ w.heap.size ≤ b) → Kp (fun q => q = m ∨ ob = some q) w w' → k w') :
    bsq 105 [(.int .i64 0), (.int .i64 0), (.int .i64 0), (.int .i64 0)] 1 [(some (0, 4), .agg (mc e).toArray)] (fun t w => apq 105 [(.int .i64 0), (.int .i64 0), (.int .i64 0), (.int .i64 0)] 32 lv t (fun t31 w => st1 (.pointer (some ⟨m, 4, none⟩)) t31 (fun w => k w) w) w) w := by
  refine h.led.app mc_length rfl e rfl (by omega) (by omega) rfl fun w1 lv' ob' hs1 hk1 ho => ?_
  have ht := hk1.row h.top (h.led.ne h.top (by decide))
  have ha := hk1.row h.atts (h.led.ne h.atts (by decide))
  refine st1_r ht (Nat.le_of_ble_eq_true rfl) (by
    cases ob' with
    | none => rw [hs1.1]; rfl
    | some q => obtain ⟨_, _, e, _⟩ := hs1; rw [e]; rfl) fun w2 r2 hk2 hz2 => ?_
  refine hk w2 ob' lv' ⟨r2, hk2.row ha (row_ne ha ht (by decide)), hs1.kp hk2 fun b hb e => ?_⟩ ho ?_
  · subst e; exact hs1.ne ht (by decide) hb
  · exact (hk1.mono fun q _ e => .inr e).trans (hk2.mono fun q _ e => .inl e)

theorem madmit_ok {attr s cls n : Int} (h : ModAt w m ab now L ob lv) (hl : L.length + 1 ≤ 65536)
    (hK : ∀ w' ob' lv', ModM w' m ab now (if mFits now L attr s cls n = 0 then L ++ [⟨attr.toNat, s, cls.toNat, n⟩] else L) ob' lv' → (ob' = ob ∨ ∃ b, ob' = some b ∧ w.heap.size ≤ b) → Kp (fun q => q = m ∨ ob = some q) w w' → K (I (mFits now L attr s cls n)) w') :
    cl Try.prog 52 #[ptr m, I attr, I s, I cls, I n] K w := by
  apply c52
  unfold s52_p2
  refine mfits_ok h fun w1 hk1 => ?_
  have h1 := h.kp hk1
  simp only [e_fd, e_nck, e_pkt, e_pkf, e_gdtt, e_gdtf, e_gdft, e_gdff, e_ift, e_iff, e_not, e_ln, e_lnT, e_cp, e_cvi, e_ex20, e_ex21, e_ex30, e_ex31, e_ex32, e_add, e_sub, e_mul, e_quo, e_rem, e_and, e_or, e_xor, e_shl, e_shr, e_eql, e_neq, e_lss, e_leq, e_gtr, e_geq, e_beq, e_bne, e_peq1, e_peq2, e_pne1, e_pne2, e_zeq1, e_zeq2, e_zne1, e_zne2, e_feq1, e_fne1, e_feq2, e_fne2, e_seq, e_sne, e_ta1, e_ta2, Nat.zero_add, Nat.add_zero, Bool.not_true, Bool.not_false]
  by_cases hm : mFits now L attr s cls n = 0
  · have e : (mFits now L attr s cls n == 0) = true := by simpa using hm
    have hok := mFits_ok hm h.inv
    unfold ptr
    simp only [e, e_fd, e_nck, e_pkt, e_pkf, e_gdtt, e_gdtf, e_gdft, e_gdff, e_ift, e_iff, e_not, e_ln, e_lnT, e_cp, e_cvi, e_ex20, e_ex21, e_ex30, e_ex31, e_ex32, e_add, e_sub, e_mul, e_quo, e_rem, e_and, e_or, e_xor, e_shl, e_shr, e_eql, e_neq, e_lss, e_leq, e_gtr, e_geq, e_beq, e_bne, e_peq1, e_peq2, e_pne1, e_pne2, e_zeq1, e_zeq2, e_zne1, e_zne2, e_feq1, e_fne1, e_feq2, e_fne2, e_seq, e_sne, e_ta1, e_ta2, Nat.zero_add, Nat.add_zero, Bool.not_true, Bool.not_false]
    refine ld1_r h1.top rfl ?_
    apply bdq_r rfl
    have em : mc ⟨attr.toNat, s, cls.toNat, n⟩ = [I attr, I s, I cls, I n] := by
      have e1 : ((attr.toNat : Nat) : Int) = attr := by omega
      have e2 : ((cls.toNat : Nat) : Int) = cls := by omega
      unfold mc; simp only [e1, e2]
    have hz := hk1.size
    have := led_add (e := ⟨attr.toNat, s, cls.toNat, n⟩) (k := fun w => s52_p1 K (I (mFits now L attr s cls n)) w) h1 hl (fun w' ob' lv' hM ho hk => by
      unfold s52_p1
      refine hK w' ob' lv' (by rw [if_pos hm]; exact hM) ?_ (hk1.none.trans hk)
      rcases ho with q | ⟨b, q, hb⟩
      · exact .inl q
      · exact .inr ⟨b, q, by omega⟩)
    rw [em] at this
    exact this
  · have e : (mFits now L attr s cls n == 0) = false := by simpa using hm
    simp only [e, e_fd, e_nck, e_pkt, e_pkf, e_gdtt, e_gdtf, e_gdft, e_gdff, e_ift, e_iff, e_not, e_ln, e_lnT, e_cp, e_cvi, e_ex20, e_ex21, e_ex30, e_ex31, e_ex32, e_add, e_sub, e_mul, e_quo, e_rem, e_and, e_or, e_xor, e_shl, e_shr, e_eql, e_neq, e_lss, e_leq, e_gtr, e_geq, e_beq, e_bne, e_peq1, e_peq2, e_pne1, e_pne2, e_zeq1, e_zeq2, e_zne1, e_zne2, e_feq1, e_fne1, e_feq2, e_fne2, e_seq, e_sne, e_ta1, e_ta2, Nat.zero_add, Nat.add_zero, Bool.not_true, Bool.not_false]
    unfold s52_p1
    exact hK w1 ob lv (by rw [if_neg hm]; exact h1.mm) (.inl rfl) hk1.none

theorem mrelease_ok {attr s cls n : Int} (h : ModAt w m ab now L ob lv) (hl : L.length + 1 ≤ 65536)
    (hK : ∀ w' ob' lv', ModM w' m ab now (if mRel now L attr s cls n = 0 then L ++ [⟨attr.toNat, s, cls.toNat, -n⟩] else L) ob' lv' → (ob' = ob ∨ ∃ b, ob' = some b ∧ w.heap.size ≤ b) → Kp (fun q => q = m ∨ ob = some q) w w' → K (I (mRel now L attr s cls n)) w') :
    cl Try.prog 53 #[ptr m, I attr, I s, I cls, I n] K w := by
  apply c53
  unfold s53_p1
  refine args_ok h ?_
  simp only [e_fd, e_nck, e_pkt, e_pkf, e_gdtt, e_gdtf, e_gdft, e_gdff, e_ift, e_iff, e_not, e_ln, e_lnT, e_cp, e_cvi, e_ex20, e_ex21, e_ex30, e_ex31, e_ex32, e_add, e_sub, e_mul, e_quo, e_rem, e_and, e_or, e_xor, e_shl, e_shr, e_eql, e_neq, e_lss, e_leq, e_gtr, e_geq, e_beq, e_bne, e_peq1, e_peq2, e_pne1, e_pne2, e_zeq1, e_zeq2, e_zne1, e_zne2, e_feq1, e_fne1, e_feq2, e_fne2, e_seq, e_sne, e_ta1, e_ta2, Nat.zero_add, Nat.add_zero, Bool.not_true, Bool.not_false]
  by_cases ha0 : argsP attr cls n = 0
  · have e : (argsP attr cls n != 0) = false := by simpa using ha0
    simp only [e, e_fd, e_nck, e_pkt, e_pkf, e_gdtt, e_gdtf, e_gdft, e_gdff, e_ift, e_iff, e_not, e_ln, e_lnT, e_cp, e_cvi, e_ex20, e_ex21, e_ex30, e_ex31, e_ex32, e_add, e_sub, e_mul, e_quo, e_rem, e_and, e_or, e_xor, e_shl, e_shr, e_eql, e_neq, e_lss, e_leq, e_gtr, e_geq, e_beq, e_bne, e_peq1, e_peq2, e_pne1, e_pne2, e_zeq1, e_zeq2, e_zne1, e_zne2, e_feq1, e_fne1, e_feq2, e_fne2, e_seq, e_sne, e_ta1, e_ta2, Nat.zero_add, Nat.add_zero, Bool.not_true, Bool.not_false]
    have hk := argsP_ok ha0
    obtain ⟨a, ea⟩ : ∃ a : Nat, attr = (a : Int) := ⟨attr.toNat, by omega⟩
    obtain ⟨c, ec⟩ : ∃ c : Nat, cls = (c : Int) := ⟨cls.toNat, by omega⟩
    subst ea ec
    have et : ((a : Int)).toNat = a := by omega
    have etc : ((c : Int)).toNat = c := by omega
    refine kept_ok h (by omega) fun w1 hk1 => ?_
    have h1 := h.kp hk1
    simp only [e_fd, e_nck, e_pkt, e_pkf, e_gdtt, e_gdtf, e_gdft, e_gdff, e_ift, e_iff, e_not, e_ln, e_lnT, e_cp, e_cvi, e_ex20, e_ex21, e_ex30, e_ex31, e_ex32, e_add, e_sub, e_mul, e_quo, e_rem, e_and, e_or, e_xor, e_shl, e_shr, e_eql, e_neq, e_lss, e_leq, e_gtr, e_geq, e_beq, e_bne, e_peq1, e_peq2, e_pne1, e_pne2, e_zeq1, e_zeq2, e_zne1, e_zne2, e_feq1, e_fne1, e_feq2, e_fne2, e_seq, e_sne, e_ta1, e_ta2, Nat.zero_add, Nat.add_zero, Bool.not_true, Bool.not_false]
    by_cases hkp : now - dw a < s ∧ s < now + 6
    · rw [decide_eq_true hkp]
      simp only [Bool.not_true, e_fd, e_nck, e_pkt, e_pkf, e_gdtt, e_gdtf, e_gdft, e_gdff, e_ift, e_iff, e_not, e_ln, e_lnT, e_cp, e_cvi, e_ex20, e_ex21, e_ex30, e_ex31, e_ex32, e_add, e_sub, e_mul, e_quo, e_rem, e_and, e_or, e_xor, e_shl, e_shr, e_eql, e_neq, e_lss, e_leq, e_gtr, e_geq, e_beq, e_bne, e_peq1, e_peq2, e_pne1, e_pne2, e_zeq1, e_zeq2, e_zne1, e_zne2, e_feq1, e_fne1, e_feq2, e_fne2, e_seq, e_sne, e_ta1, e_ta2, Nat.zero_add, Nat.add_zero, Bool.not_true, Bool.not_false]
      have hck : chkP now a s c n 1 = 0 := chkP1_iff.2 ⟨hk.1, hk.2.1, hk.2.2.1, hk.2.2.2.1, hk.2.2.2.2, by rw [et]; omega, hkp.2⟩
      have em : mRel now L a s c n = if ent L a s c < n then 7 else 0 := by unfold mRel; rw [if_pos hck, et, etc]
      refine entered_ok h1 fun w2 hk2 => ?_
      have h2 := h1.kp hk2
      have k2 := hk1.trans hk2
      simp only [e_fd, e_nck, e_pkt, e_pkf, e_gdtt, e_gdtf, e_gdft, e_gdff, e_ift, e_iff, e_not, e_ln, e_lnT, e_cp, e_cvi, e_ex20, e_ex21, e_ex30, e_ex31, e_ex32, e_add, e_sub, e_mul, e_quo, e_rem, e_and, e_or, e_xor, e_shl, e_shr, e_eql, e_neq, e_lss, e_leq, e_gtr, e_geq, e_beq, e_bne, e_peq1, e_peq2, e_pne1, e_pne2, e_zeq1, e_zeq2, e_zne1, e_zne2, e_feq1, e_fne1, e_feq2, e_fne2, e_seq, e_sne, e_ta1, e_ta2, Nat.zero_add, Nat.add_zero, Bool.not_true, Bool.not_false]
      by_cases hgt : ent L a s c < n
      · simp only [hgt, decide_true, e_fd, e_nck, e_pkt, e_pkf, e_gdtt, e_gdtf, e_gdft, e_gdff, e_ift, e_iff, e_not, e_ln, e_lnT, e_cp, e_cvi, e_ex20, e_ex21, e_ex30, e_ex31, e_ex32, e_add, e_sub, e_mul, e_quo, e_rem, e_and, e_or, e_xor, e_shl, e_shr, e_eql, e_neq, e_lss, e_leq, e_gtr, e_geq, e_beq, e_bne, e_peq1, e_peq2, e_pne1, e_pne2, e_zeq1, e_zeq2, e_zne1, e_zne2, e_feq1, e_fne1, e_feq2, e_fne2, e_seq, e_sne, e_ta1, e_ta2, Nat.zero_add, Nat.add_zero, Bool.not_true, Bool.not_false]
        rw [if_pos hgt] at em
        have := hK w2 ob lv (by rw [em, if_neg (by decide)]; exact h2.mm) (.inl rfl) k2.none
        rw [em] at this
        exact this
      · simp only [hgt, decide_false, e_fd, e_nck, e_pkt, e_pkf, e_gdtt, e_gdtf, e_gdft, e_gdff, e_ift, e_iff, e_not, e_ln, e_lnT, e_cp, e_cvi, e_ex20, e_ex21, e_ex30, e_ex31, e_ex32, e_add, e_sub, e_mul, e_quo, e_rem, e_and, e_or, e_xor, e_shl, e_shr, e_eql, e_neq, e_lss, e_leq, e_gtr, e_geq, e_beq, e_bne, e_peq1, e_peq2, e_pne1, e_pne2, e_zeq1, e_zeq2, e_zne1, e_zne2, e_feq1, e_fne1, e_feq2, e_fne2, e_seq, e_sne, e_ta1, e_ta2, Nat.zero_add, Nat.add_zero, Bool.not_true, Bool.not_false]
        rw [if_neg hgt] at em
        have hrok := mRel_ok em h.inv
        unfold ptr
        simp only [e_fd, e_nck, e_pkt, e_pkf, e_gdtt, e_gdtf, e_gdft, e_gdff, e_ift, e_iff, e_not, e_ln, e_lnT, e_cp, e_cvi, e_ex20, e_ex21, e_ex30, e_ex31, e_ex32, e_add, e_sub, e_mul, e_quo, e_rem, e_and, e_or, e_xor, e_shl, e_shr, e_eql, e_neq, e_lss, e_leq, e_gtr, e_geq, e_beq, e_bne, e_peq1, e_peq2, e_pne1, e_pne2, e_zeq1, e_zeq2, e_zne1, e_zne2, e_feq1, e_fne1, e_feq2, e_fne2, e_seq, e_sne, e_ta1, e_ta2, Nat.zero_add, Nat.add_zero, Bool.not_true, Bool.not_false]
        refine ld1_r h2.top rfl ?_
        rw [e_neg, wrap64_id (by omega) (by omega), show (0 : Int) - n = -n by omega]
        apply bdq_r rfl
        have hz := k2.size
        have := led_add (e := ⟨a, s, c, -n⟩) (k := fun w => K (I 0) w) h2 hl (fun w' ob' lv' hM ho hk => by
          have := hK w' ob' lv' (by rw [em, if_pos rfl, et, etc]; exact hM) (by
            rcases ho with q | ⟨b, q, hb⟩
            · exact .inl q
            · exact .inr ⟨b, q, by omega⟩) (k2.none.trans hk)
          rw [em] at this
          exact this)
        exact this
    · rw [decide_eq_false hkp]
      simp only [Bool.not_false, e_fd, e_nck, e_pkt, e_pkf, e_gdtt, e_gdtf, e_gdft, e_gdff, e_ift, e_iff, e_not, e_ln, e_lnT, e_cp, e_cvi, e_ex20, e_ex21, e_ex30, e_ex31, e_ex32, e_add, e_sub, e_mul, e_quo, e_rem, e_and, e_or, e_xor, e_shl, e_shr, e_eql, e_neq, e_lss, e_leq, e_gtr, e_geq, e_beq, e_bne, e_peq1, e_peq2, e_pne1, e_pne2, e_zeq1, e_zeq2, e_zne1, e_zne2, e_feq1, e_fne1, e_feq2, e_fne2, e_seq, e_sne, e_ta1, e_ta2, Nat.zero_add, Nat.add_zero, Bool.not_true, Bool.not_false]
      have em : mRel now L a s c n = 4 := by
        unfold mRel
        have : ¬ chkP now a s c n 1 = 0 := fun q => by have := chkP1_iff.1 q; rw [et] at this; omega
        rw [if_neg this, chkP_args, if_pos ha0, if_pos (by simp; omega)]
      have := hK w1 ob lv (by rw [em, if_neg (by decide)]; exact h1.mm) (.inl rfl) hk1.none
      rw [em] at this
      exact this
  · have e : (argsP attr cls n != 0) = true := by simpa using ha0
    simp only [e, e_fd, e_nck, e_pkt, e_pkf, e_gdtt, e_gdtf, e_gdft, e_gdff, e_ift, e_iff, e_not, e_ln, e_lnT, e_cp, e_cvi, e_ex20, e_ex21, e_ex30, e_ex31, e_ex32, e_add, e_sub, e_mul, e_quo, e_rem, e_and, e_or, e_xor, e_shl, e_shr, e_eql, e_neq, e_lss, e_leq, e_gtr, e_geq, e_beq, e_bne, e_peq1, e_peq2, e_pne1, e_pne2, e_zeq1, e_zeq2, e_zne1, e_zne2, e_feq1, e_fne1, e_feq2, e_fne2, e_seq, e_sne, e_ta1, e_ta2, Nat.zero_add, Nat.add_zero, Bool.not_true, Bool.not_false]
    have em : mRel now L attr s cls n = argsP attr cls n := by
      unfold mRel
      have : chkP now attr s cls n 1 = argsP attr cls n := by rw [chkP_args, if_neg ha0]
      rw [this, if_neg ha0]
    have := hK w ob lv (by rw [em, if_neg ha0]; exact h.mm) (.inl rfl) (Kp.refl _ _)
    rw [em] at this
    exact this

theorem madvance_ok {n : Int} (h : ModAt w m ab now L ob lv) (hn : i64in n)
    (hK : ∀ w', ModM w' m ab (advNow now n) L ob lv → Kp (fun q => q = m ∨ ob = some q) w w' → K (I (advC now n)) w') : cl Try.prog 54 #[ptr m, I n] K w := by
  have n0 := h.inv.n0
  have n1 := h.inv.n1
  apply c54
  unfold s54_p3
  simp only [e_fd, e_nck, e_pkt, e_pkf, e_gdtt, e_gdtf, e_gdft, e_gdff, e_ift, e_iff, e_not, e_ln, e_lnT, e_cp, e_cvi, e_ex20, e_ex21, e_ex30, e_ex31, e_ex32, e_add, e_sub, e_mul, e_quo, e_rem, e_and, e_or, e_xor, e_shl, e_shr, e_eql, e_neq, e_lss, e_leq, e_gtr, e_geq, e_beq, e_bne, e_peq1, e_peq2, e_pne1, e_pne2, e_zeq1, e_zeq2, e_zne1, e_zne2, e_feq1, e_fne1, e_feq2, e_fne2, e_seq, e_sne, e_ta1, e_ta2, Nat.zero_add, Nat.add_zero, Bool.not_true, Bool.not_false]
  unfold advNow advC at hK
  by_cases h1 : n < 0
  · simp only [h1, decide_true, e_fd, e_nck, e_pkt, e_pkf, e_gdtt, e_gdtf, e_gdft, e_gdff, e_ift, e_iff, e_not, e_ln, e_lnT, e_cp, e_cvi, e_ex20, e_ex21, e_ex30, e_ex31, e_ex32, e_add, e_sub, e_mul, e_quo, e_rem, e_and, e_or, e_xor, e_shl, e_shr, e_eql, e_neq, e_lss, e_leq, e_gtr, e_geq, e_beq, e_bne, e_peq1, e_peq2, e_pne1, e_pne2, e_zeq1, e_zeq2, e_zne1, e_zne2, e_feq1, e_fne1, e_feq2, e_fne2, e_seq, e_sne, e_ta1, e_ta2, Nat.zero_add, Nat.add_zero, Bool.not_true, Bool.not_false]
    simp only [if_pos h1] at hK
    exact hK w (by rw [if_neg (by decide)]; exact h.mm) (Kp.refl _ _)
  · simp only [h1, decide_false, e_fd, e_nck, e_pkt, e_pkf, e_gdtt, e_gdtf, e_gdft, e_gdff, e_ift, e_iff, e_not, e_ln, e_lnT, e_cp, e_cvi, e_ex20, e_ex21, e_ex30, e_ex31, e_ex32, e_add, e_sub, e_mul, e_quo, e_rem, e_and, e_or, e_xor, e_shl, e_shr, e_eql, e_neq, e_lss, e_leq, e_gtr, e_geq, e_beq, e_bne, e_peq1, e_peq2, e_pne1, e_pne2, e_zeq1, e_zeq2, e_zne1, e_zne2, e_feq1, e_fne1, e_feq2, e_fne2, e_seq, e_sne, e_ta1, e_ta2, Nat.zero_add, Nat.add_zero, Bool.not_true, Bool.not_false]
    simp only [if_neg h1] at hK
    unfold s54_p2 s54_p2_d ptr
    simp only [e_fd, e_nck, e_pkt, e_pkf, e_gdtt, e_gdtf, e_gdft, e_gdff, e_ift, e_iff, e_not, e_ln, e_lnT, e_cp, e_cvi, e_ex20, e_ex21, e_ex30, e_ex31, e_ex32, e_add, e_sub, e_mul, e_quo, e_rem, e_and, e_or, e_xor, e_shl, e_shr, e_eql, e_neq, e_lss, e_leq, e_gtr, e_geq, e_beq, e_bne, e_peq1, e_peq2, e_pne1, e_pne2, e_zeq1, e_zeq2, e_zne1, e_zne2, e_feq1, e_fne1, e_feq2, e_fne2, e_seq, e_sne, e_ta1, e_ta2, Nat.zero_add, Nat.add_zero, Bool.not_true, Bool.not_false]
    refine ld1_r h.top.drw rfl ?_
    refine ld1_r h.top.drw rfl ?_
    simp only [e_fd, e_nck, e_pkt, e_pkf, e_gdtt, e_gdtf, e_gdft, e_gdff, e_ift, e_iff, e_not, e_ln, e_lnT, e_cp, e_cvi, e_ex20, e_ex21, e_ex30, e_ex31, e_ex32, e_add, e_sub, e_mul, e_quo, e_rem, e_and, e_or, e_xor, e_shl, e_shr, e_eql, e_neq, e_lss, e_leq, e_gtr, e_geq, e_beq, e_bne, e_peq1, e_peq2, e_pne1, e_pne2, e_zeq1, e_zeq2, e_zne1, e_zne2, e_feq1, e_fne1, e_feq2, e_fne2, e_seq, e_sne, e_ta1, e_ta2, Nat.zero_add, Nat.add_zero, Bool.not_true, Bool.not_false]
    rw [wrap64_id (by omega) (by omega)]
    unfold s54_p1
    have hkd : Kp (fun q => q = m ∨ ob = some q) w (drw w) := kp_drw
    have hd := h.kp (kp_drw (w := w))
    by_cases h2 : 90 - now < n
    · simp only [h2, decide_true, e_fd, e_nck, e_pkt, e_pkf, e_gdtt, e_gdtf, e_gdft, e_gdff, e_ift, e_iff, e_not, e_ln, e_lnT, e_cp, e_cvi, e_ex20, e_ex21, e_ex30, e_ex31, e_ex32, e_add, e_sub, e_mul, e_quo, e_rem, e_and, e_or, e_xor, e_shl, e_shr, e_eql, e_neq, e_lss, e_leq, e_gtr, e_geq, e_beq, e_bne, e_peq1, e_peq2, e_pne1, e_pne2, e_zeq1, e_zeq2, e_zne1, e_zne2, e_feq1, e_fne1, e_feq2, e_fne2, e_seq, e_sne, e_ta1, e_ta2, Nat.zero_add, Nat.add_zero, Bool.not_true, Bool.not_false]
      simp only [if_pos h2] at hK
      exact hK _ (by rw [if_neg (by decide)]; exact hd.mm) hkd
    · simp only [h2, decide_false, e_fd, e_nck, e_pkt, e_pkf, e_gdtt, e_gdtf, e_gdft, e_gdff, e_ift, e_iff, e_not, e_ln, e_lnT, e_cp, e_cvi, e_ex20, e_ex21, e_ex30, e_ex31, e_ex32, e_add, e_sub, e_mul, e_quo, e_rem, e_and, e_or, e_xor, e_shl, e_shr, e_eql, e_neq, e_lss, e_leq, e_gtr, e_geq, e_beq, e_bne, e_peq1, e_peq2, e_pne1, e_pne2, e_zeq1, e_zeq2, e_zne1, e_zne2, e_feq1, e_fne1, e_feq2, e_fne2, e_seq, e_sne, e_ta1, e_ta2, Nat.zero_add, Nat.add_zero, Bool.not_true, Bool.not_false]
      simp only [if_neg h2] at hK
      refine ld1_r hd.top rfl ?_
      simp only [e_fd, e_nck, e_pkt, e_pkf, e_gdtt, e_gdtf, e_gdft, e_gdff, e_ift, e_iff, e_not, e_ln, e_lnT, e_cp, e_cvi, e_ex20, e_ex21, e_ex30, e_ex31, e_ex32, e_add, e_sub, e_mul, e_quo, e_rem, e_and, e_or, e_xor, e_shl, e_shr, e_eql, e_neq, e_lss, e_leq, e_gtr, e_geq, e_beq, e_bne, e_peq1, e_peq2, e_pne1, e_pne2, e_zeq1, e_zeq2, e_zne1, e_zne2, e_feq1, e_fne1, e_feq2, e_fne2, e_seq, e_sne, e_ta1, e_ta2, Nat.zero_add, Nat.add_zero, Bool.not_true, Bool.not_false]
      rw [wrap64_id (by omega) (by omega)]
      refine st1_r hd.top (Nat.le_of_ble_eq_true rfl) rfl fun w2 r2 hk2 hz2 => ?_
      refine hK w2 ?_ (hkd.trans (hk2.mono fun q _ e => .inl e))
      rw [if_pos trivial]
      exact ⟨r2, hk2.row hd.atts (row_ne hd.atts hd.top (by decide)), hd.led.kp hk2 fun b hb e => by subst e; exact hd.led.ne hd.top (by decide) hb⟩
end
end Go.Proofs.Qxb6500897a
