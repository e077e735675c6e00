import Derived.Test.Qxb6500897aP53
namespace Go.Proofs.Qxb6500897a
open Go.Sh Go.RowKit
set_option linter.unusedVariables false
set_option linter.unusedSimpArgs false

/-! ### lookModel -/
section
variable {w0 wr w : World} {m ab : Nat} {now : Int} {L : List Ent} {ob : Option Nat} {lv : Value} {K : Value → World → Prop} {B1 B2 : List Value → World → Prop} {t2 t3 t20 t21 t22 : Value}

theorem lm_cls {cb a : Nat} {s : Int} {t6 rw_ : Value} (h : ModAt w m ab now L ob lv) (hr : Row w cb 61 [I (ins L a (dw a) s), I 0, I 0, I 0])
    (hK : ∀ w', Kp (fun k => k = cb) w w' → Row w' cb 61 (ctrOf L a s).cells → s21_p5 K B1 B2 (ptr m) t2 t3 (I a) t6 rw_ (I s) (ptr cb) t20 t21 t22 w') :
    s21_p7 K B1 B2 (ptr m) t2 t3 (I a) t6 rw_ (I s) (ptr cb) t20 t21 t22 (I 0) w := by
  refine ⟨fun q l w' => ∃ j : Nat, j ≤ 3 ∧ q = 3 - j ∧ l = [ptr m, t2, t3, I a, t6, rw_, I s, ptr cb, t20, t21, t22, I j] ∧ Kp (fun k => k = cb) w w' ∧
      Row w' cb 61 [I (ins L a (dw a) s), I (if 0 < j then ent L a s 0 else 0), I (if 1 < j then ent L a s 1 else 0), I (if 2 < j then ent L a s 2 else 0)],
    3, ⟨0, by omega, by omega, rfl, Kp.refl _ _, hr⟩, ?_⟩
  rintro q l w1 ⟨j, hj, hq, rfl, hk1, hr1⟩
  rw [s21_p7_Fe]
  unfold s21_p6
  simp only [e_fd, e_nck, e_pkt, e_pkf, e_gdtt, e_gdtf, e_gdft, e_gdff, e_ift, e_iff, e_not, e_ln, e_lnT, e_cp, e_cvi, e_ex20, e_ex21, e_ex30, e_ex31, e_ex32, e_add, e_sub, e_mul, e_quo, e_rem, e_and, e_or, e_xor, e_shl, e_shr, e_eql, e_neq, e_lss, e_leq, e_gtr, e_geq, e_beq, e_bne, e_peq1, e_peq2, e_pne1, e_pne2, e_zeq1, e_zeq2, e_zne1, e_zne2, e_feq1, e_fne1, e_feq2, e_fne2, e_seq, e_sne, e_ta1, e_ta2, Nat.zero_add, Nat.add_zero, Bool.not_true, Bool.not_false]
  have h1 : ModAt w1 m ab now L ob lv := h.kpS hk1 fun k t l (e : k = cb) hrk => by
    subst e
    refine ⟨fun e => ?_, fun e => ?_, fun e => ?_⟩ <;> subst e
    · exact row_ne hrk hr (by decide) rfl
    · exact row_ne hrk hr (by decide) rfl
    · exact row_ne hrk hr (by decide) rfl
  by_cases hlt : j < 3
  · have hlt' : (j : Int) < 3 := by omega
    simp only [hlt', decide_true, e_fd, e_nck, e_pkt, e_pkf, e_gdtt, e_gdtf, e_gdft, e_gdff, e_ift, e_iff, e_not, e_ln, e_lnT, e_cp, e_cvi, e_ex20, e_ex21, e_ex30, e_ex31, e_ex32, e_add, e_sub, e_mul, e_quo, e_rem, e_and, e_or, e_xor, e_shl, e_shr, e_eql, e_neq, e_lss, e_leq, e_gtr, e_geq, e_beq, e_bne, e_peq1, e_peq2, e_pne1, e_pne2, e_zeq1, e_zeq2, e_zne1, e_zne2, e_feq1, e_fne1, e_feq2, e_fne2, e_seq, e_sne, e_ta1, e_ta2, Nat.zero_add, Nat.add_zero, Bool.not_true, Bool.not_false]
    refine entered_ok h1 fun w2 hk2 => ?_
    have hr2 := hk2.row' hr1
    unfold ptr
    simp only [e_fd, e_nck, e_pkt, e_pkf, e_gdtt, e_gdtf, e_gdft, e_gdff, e_ift, e_iff, e_not, e_ln, e_lnT, e_cp, e_cvi, e_ex20, e_ex21, e_ex30, e_ex31, e_ex32, e_add, e_sub, e_mul, e_quo, e_rem, e_and, e_or, e_xor, e_shl, e_shr, e_eql, e_neq, e_lss, e_leq, e_gtr, e_geq, e_beq, e_bne, e_peq1, e_peq2, e_pne1, e_pne2, e_zeq1, e_zeq2, e_zne1, e_zne2, e_feq1, e_fne1, e_feq2, e_fne2, e_seq, e_sne, e_ta1, e_ta2, Nat.zero_add, Nat.add_zero, Bool.not_true, Bool.not_false]
    refine ⟨⟨by omega, by omega⟩, ?_⟩
    have ej : ((j : Int)).toNat = j := by omega
    simp only [ej, add_mk, Nat.mul_one, Nat.zero_add]
    refine st1_r hr2 (by simp; omega) rfl fun w3 r3 hk3 hz3 => ?_
    rw [wrap64_id (by omega) (by omega)]
    refine ⟨3 - (j + 1), by omega, j + 1, by omega, rfl, by simp [ptr], (hk1.trans hk2.none).trans hk3, ?_⟩
    match j, hlt with
    | 0, _ => exact r3
    | 1, _ => exact r3
    | 2, _ => exact r3
  · have hlt' : ¬ (j : Int) < 3 := by omega
    simp only [hlt', decide_false, e_fd, e_nck, e_pkt, e_pkf, e_gdtt, e_gdtf, e_gdft, e_gdff, e_ift, e_iff, e_not, e_ln, e_lnT, e_cp, e_cvi, e_ex20, e_ex21, e_ex30, e_ex31, e_ex32, e_add, e_sub, e_mul, e_quo, e_rem, e_and, e_or, e_xor, e_shl, e_shr, e_eql, e_neq, e_lss, e_leq, e_gtr, e_geq, e_beq, e_bne, e_peq1, e_peq2, e_pne1, e_pne2, e_zeq1, e_zeq2, e_zne1, e_zne2, e_feq1, e_fne1, e_feq2, e_fne2, e_seq, e_sne, e_ta1, e_ta2, Nat.zero_add, Nat.add_zero, Bool.not_true, Bool.not_false]
    have : j = 3 := by omega
    subst this
    exact hK w1 hk1 hr1

theorem lm_row {a rb : Nat} {rv : Value} (h : ModAt wr m ab now L ob lv) (ha : a < 4) (hw : Kp (fun _ => False) wr w) (hs : Sl Ctr.cells 4 w 61 (some rb) rv []) (hrb : wr.heap.size ≤ rb)
    (hK : ∀ w' rb' rv', Kp (fun _ => False) wr w' → Sl Ctr.cells 4 w' 61 (some rb') rv' (rowOf now L a) → wr.heap.size ≤ rb' → s21_p3 K B1 (ptr m) t2 t3 (I (fst1 now a)) rv' t20 t21 t22 w') :
    s21_p10 K B1 (ptr m) t2 t3 (I a) (I (fst1 now a)) rv (I (fst1 now a)) t20 t21 t22 w := by
  have hdw : (pa a).dwell = dw a := rfl
  have hb := pa_bd a
  have n0 := h.inv.n0
  have n1 := h.inv.n1
  have hrl : (rlen a : Int) = 6 + 2 * (dw a - 1) := by unfold rlen; omega
  have hf1 : fst1 now a = now - (dw a - 1) := rfl
  refine ⟨fun q l w => ∃ (k rb : Nat) (rv : Value), k ≤ rlen a ∧ q = rlen a - k ∧ l = [ptr m, t2, t3, I a, I (fst1 now a), rv, I (fst1 now a + (k : Nat)), t20, t21, t22] ∧
      Kp (fun _ => False) wr w ∧ Sl Ctr.cells 4 w 61 (some rb) rv (rowTo now L a k) ∧ wr.heap.size ≤ rb,
    rlen a, ⟨0, rb, rv, by omega, by omega, by simp, hw, hs, hrb⟩, ?_⟩
  rintro q l w ⟨k, rb, rv, hk, hq, rfl, hw, hs, hrb⟩
  rw [s21_p10_Fe]
  unfold s21_p9
  refine seen_ok (h.kp hw) ha fun w0 hk0 => ?_
  have hw0 := hw.trans hk0
  have hs0 := hs.kp' hk0
  by_cases hlt : k < rlen a
  · have hseen : seen now a (fst1 now a + (k : Nat)) := ⟨by omega, by omega⟩
    rw [decide_eq_true hseen]
    simp only [e_fd, e_nck, e_pkt, e_pkf, e_gdtt, e_gdtf, e_gdft, e_gdff, e_ift, e_iff, e_not, e_ln, e_lnT, e_cp, e_cvi, e_ex20, e_ex21, e_ex30, e_ex31, e_ex32, e_add, e_sub, e_mul, e_quo, e_rem, e_and, e_or, e_xor, e_shl, e_shr, e_eql, e_neq, e_lss, e_leq, e_gtr, e_geq, e_beq, e_bne, e_peq1, e_peq2, e_pne1, e_pne2, e_zeq1, e_zeq2, e_zne1, e_zne2, e_feq1, e_fne1, e_feq2, e_fne2, e_seq, e_sne, e_ta1, e_ta2, Nat.zero_add, Nat.add_zero, Bool.not_true, Bool.not_false]
    unfold s21_p8
    refine inside_ok (h.kp hw0) ha fun w1 hk1 => ?_
    have hw1 := hw0.trans hk1
    apply bdq_r rfl
    refine nw_r fun w2 r2 hb2 hz2 => ?_
    refine stn_r r2 rfl (Nat.le_of_ble_eq_true rfl) rfl fun w3 r3 hb3 hz3 => ?_
    replace r3 : Row w3 w1.heap.size 61 [I (ins L a (dw a) (fst1 now a + (k : Nat))), I 0, I 0, I 0] := r3
    have hz1 := hw1.size
    have hk3 : Kp (fun _ => False) wr w3 := (hw1.trans hb2).then hb3 (by intro x hx (e : x = _); omega)
    refine lm_cls (h.kp hk3) r3 fun w4 hk4 r4 => ?_
    have hk4' : Kp (fun _ => False) wr w4 := hk3.then hk4 (by intro x hx (e : x = _); omega)
    unfold s21_p5
    refine ldn_r r4 (Nat.le_of_ble_eq_true rfl) ?_
    have hs4 : Sl Ctr.cells 4 w4 61 (some rb) rv (rowTo now L a k) := by
      have hs1 := hs0.kp' hk1
      have hrbl : rb < w1.heap.size := by obtain ⟨l, hr⟩ := hs1.row rfl; exact hr.lt
      refine (((hs1.kp' hb2).kp hb3 ?_).kp hk4 ?_)
      · intro b hb (e : b = _)
        have : rb = b := by simpa using hb
        omega
      · intro b hb (e : b = _)
        have : rb = b := by simpa using hb
        omega
    refine hs4.app Ctr.cells_length rfl (ctrOf L a (fst1 now a + (k : Nat))) rfl (by rw [rowTo_length]; omega) (by rw [rowTo_length]; omega) rfl fun w5 rv' ob' hs5 hk5 ho => ?_
    unfold s21_p4
    simp only [e_fd, e_nck, e_pkt, e_pkf, e_gdtt, e_gdtf, e_gdft, e_gdff, e_ift, e_iff, e_not, e_ln, e_lnT, e_cp, e_cvi, e_ex20, e_ex21, e_ex30, e_ex31, e_ex32, e_add, e_sub, e_mul, e_quo, e_rem, e_and, e_or, e_xor, e_shl, e_shr, e_eql, e_neq, e_lss, e_leq, e_gtr, e_geq, e_beq, e_bne, e_peq1, e_peq2, e_pne1, e_pne2, e_zeq1, e_zeq2, e_zne1, e_zne2, e_feq1, e_fne1, e_feq2, e_fne2, e_seq, e_sne, e_ta1, e_ta2, Nat.zero_add, Nat.add_zero, Bool.not_true, Bool.not_false]
    rw [wrap64_id (by omega) (by omega)]
    have hw4 := hk4'.size
    obtain ⟨rb', hrb', hrl'⟩ : ∃ rb', ob' = some rb' ∧ wr.heap.size ≤ rb' := by
      rcases ho with e | ⟨c, e, hc⟩
      · exact ⟨rb, e, hrb⟩
      · exact ⟨c, e, by omega⟩
    subst hrb'
    rw [← rowTo_succ] at hs5
    refine ⟨rlen a - (k + 1), by omega, k + 1, rb', rv', by omega, rfl, ?_, ?_, hs5, hrl'⟩
    · have e : fst1 now a + ((k + 1 : Nat) : Int) = fst1 now a + (k : Nat) + 1 := by omega
      rw [e]
    · exact hk4'.then hk5 (by intro x hx (e : some rb = some x); have : rb = x := Option.some.inj e; omega)
  · have hns : ¬ seen now a (fst1 now a + (k : Nat)) := by unfold seen; omega
    rw [decide_eq_false hns]
    simp only [e_fd, e_nck, e_pkt, e_pkf, e_gdtt, e_gdtf, e_gdft, e_gdff, e_ift, e_iff, e_not, e_ln, e_lnT, e_cp, e_cvi, e_ex20, e_ex21, e_ex30, e_ex31, e_ex32, e_add, e_sub, e_mul, e_quo, e_rem, e_and, e_or, e_xor, e_shl, e_shr, e_eql, e_neq, e_lss, e_leq, e_gtr, e_geq, e_beq, e_bne, e_peq1, e_peq2, e_pne1, e_pne2, e_zeq1, e_zeq2, e_zne1, e_zne2, e_feq1, e_fne1, e_feq2, e_fne2, e_seq, e_sne, e_ta1, e_ta2, Nat.zero_add, Nat.add_zero, Bool.not_true, Bool.not_false]
    have : k = rlen a := by omega
    subst this
    exact hK w0 rb rv hw0 hs0 hrb
end

theorem lm_ok {w0 : World} {m ab : Nat} {now : Int} {L : List Ent} {ob : Option Nat} {lv : Value} {K : Value → World → Prop} (h : ModAt w0 m ab now L ob lv)
    (hK : ∀ w' val, ViewAt w' val (vwOf now L) w0.heap.size → Kp (fun _ => False) w0 w' → K val w') : cl Try.prog 21 #[ptr m] K w0 := by
  have n0 := h.inv.n0
  have n1 := h.inv.n1
  apply c21
  unfold s21_p16 ptr
  refine nw_r fun w1 r1 hb1 hz1 => ?_
  simp only [e_fd, e_nck, e_pkt, e_pkf, e_gdtt, e_gdtf, e_gdft, e_gdff, e_ift, e_iff, e_not, e_ln, e_lnT, e_cp, e_cvi, e_ex20, e_ex21, e_ex30, e_ex31, e_ex32, e_add, e_sub, e_mul, e_quo, e_rem, e_and, e_or, e_xor, e_shl, e_shr, e_eql, e_neq, e_lss, e_leq, e_gtr, e_geq, e_beq, e_bne, e_peq1, e_peq2, e_pne1, e_pne2, e_zeq1, e_zeq2, e_zne1, e_zne2, e_feq1, e_fne1, e_feq2, e_fne2, e_seq, e_sne, e_ta1, e_ta2, Nat.zero_add, Nat.add_zero, Bool.not_true, Bool.not_false]
  refine ld1_r (hb1.row' h.top) rfl ?_
  apply bdq_r rfl
  refine nw_r fun w2 r2 hb2 hz2 => ?_
  refine stn_r r2 rfl (Nat.le_of_ble_eq_true rfl) rfl fun w3 r3 hb3 hz3 => ?_
  replace r3 : Row w3 w1.heap.size 43 [.bool true, I now, .slice none 0 0, .slice none 0 0] := r3
  have k3 : Kp (fun _ => False) w0 w3 := (hb1.trans hb2).then hb3 (by intro x hx (e : x = _); have := hb1.size; omega)
  have r13 := hb3.row (hb2.row' r1) (by intro (e : w0.heap.size = _); omega)
  refine ld1_r (k3.row' h.top) rfl ?_
  simp only [e_fd, e_nck, e_pkt, e_pkf, e_gdtt, e_gdtf, e_gdft, e_gdff, e_ift, e_iff, e_not, e_ln, e_lnT, e_cp, e_cvi, e_ex20, e_ex21, e_ex30, e_ex31, e_ex32, e_add, e_sub, e_mul, e_quo, e_rem, e_and, e_or, e_xor, e_shl, e_shr, e_eql, e_neq, e_lss, e_leq, e_gtr, e_geq, e_beq, e_bne, e_peq1, e_peq2, e_pne1, e_pne2, e_zeq1, e_zeq2, e_zne1, e_zne2, e_feq1, e_fne1, e_feq2, e_fne2, e_seq, e_sne, e_ta1, e_ta2, Nat.zero_add, Nat.add_zero, Bool.not_true, Bool.not_false]
  generalize hb3n : w1.heap.size = b3 at *
  generalize hb2n : w0.heap.size = b2 at *
  have hV0 : VP w3 none (.slice none 0 0) none (.slice none 0 0) [] [] b2 := ⟨⟨rfl, rfl⟩, ⟨rfl, rfl⟩, by simp, by simp, by simp, by simp, by simp⟩
  refine ⟨fun q l w => ∃ (a : Nat) (fob : Option Nat) (fv : Value) (sob : Option Nat) (sv : Value) (its : List It), a ≤ 4 ∧ q = 4 - a ∧ l = [ptr m, ptr b2, ptr b3, .slice (some ⟨ab, 0, none⟩) 4 4, I 4, I a] ∧ Kp (fun _ => False) w0 w ∧
      Row w b2 43 [.bool false, I 0, .slice none 0 0, .slice none 0 0] ∧ Row w b3 43 [.bool true, I now, fv, sv] ∧ VP w fob fv sob sv ((List.range a).map (fst1 now)) its b2 ∧ its.map (·.cs) = (List.range a).map (rowOf now L),
    4, ⟨0, none, _, none, _, [], by omega, by omega, rfl, k3, r13, r3, hV0, rfl⟩, ?_⟩
  rintro q l w ⟨a, fob, fv, sob, sv, its, ha, hq, rfl, hw, rb2, rb3, hV, hcs⟩
  rw [s21_p15_Fe]
  unfold s21_p14
  simp only [e_fd, e_nck, e_pkt, e_pkf, e_gdtt, e_gdtf, e_gdft, e_gdff, e_ift, e_iff, e_not, e_ln, e_lnT, e_cp, e_cvi, e_ex20, e_ex21, e_ex30, e_ex31, e_ex32, e_add, e_sub, e_mul, e_quo, e_rem, e_and, e_or, e_xor, e_shl, e_shr, e_eql, e_neq, e_lss, e_leq, e_gtr, e_geq, e_beq, e_bne, e_peq1, e_peq2, e_pne1, e_pne2, e_zeq1, e_zeq2, e_zne1, e_zne2, e_feq1, e_fne1, e_feq2, e_fne2, e_seq, e_sne, e_ta1, e_ta2, Nat.zero_add, Nat.add_zero, Bool.not_true, Bool.not_false]
  have hwz := hw.size
  by_cases hlt : a < 4
  · have hlt' : (a : Int) < 4 := by omega
    simp only [hlt', decide_true, e_fd, e_nck, e_pkt, e_pkf, e_gdtt, e_gdtf, e_gdft, e_gdff, e_ift, e_iff, e_not, e_ln, e_lnT, e_cp, e_cvi, e_ex20, e_ex21, e_ex30, e_ex31, e_ex32, e_add, e_sub, e_mul, e_quo, e_rem, e_and, e_or, e_xor, e_shl, e_shr, e_eql, e_neq, e_lss, e_leq, e_gtr, e_geq, e_beq, e_bne, e_peq1, e_peq2, e_pne1, e_pne2, e_zeq1, e_zeq2, e_zne1, e_zne2, e_feq1, e_fne1, e_feq2, e_fne2, e_seq, e_sne, e_ta1, e_ta2, Nat.zero_add, Nat.add_zero, Bool.not_true, Bool.not_false]
    have hb := pa_bd a
    have hdw : (pa a).dwell = dw a := rfl
    have hal : a < parkA.length := hlt
    unfold s21_p13
    refine ixs_r hlt ?_
    refine ldn_r (hw.row' h.atts) (rows_le Att.cells_length parkA a hal) ?_
    rw [rows_slice Att.cells_length parkA a hal, parkA_at hal]
    refine nw_r fun w4 r4 hb4 hz4 => ?_
    refine stn_r r4 rfl (Nat.le_of_ble_eq_true rfl) rfl fun w5' r5 hb5 hz5 => ?_
    replace r5 : Row w5' w.heap.size 59 (pa a).cells := r5
    have hk5' : Kp (fun _ => False) w w5' := hb4.then hb5 (by intro x hx (e : x = _); omega)
    unfold s21_p12 s21_p12_d ptr
    have hk5 : Kp (fun _ => False) w (drw w5') := hk5'.trans kp_drw
    have r5d := r5.drw
    generalize drw w5' = w5 at *
    have hw5 := hw.trans hk5
    simp only [e_fd, e_nck, e_pkt, e_pkf, e_gdtt, e_gdtf, e_gdft, e_gdff, e_ift, e_iff, e_not, e_ln, e_lnT, e_cp, e_cvi, e_ex20, e_ex21, e_ex30, e_ex31, e_ex32, e_add, e_sub, e_mul, e_quo, e_rem, e_and, e_or, e_xor, e_shl, e_shr, e_eql, e_neq, e_lss, e_leq, e_gtr, e_geq, e_beq, e_bne, e_peq1, e_peq2, e_pne1, e_pne2, e_zeq1, e_zeq2, e_zne1, e_zne2, e_feq1, e_fne1, e_feq2, e_fne2, e_seq, e_sne, e_ta1, e_ta2, Nat.zero_add, Nat.add_zero, Bool.not_true, Bool.not_false]
    refine ld1_r (hw5.row' h.top) rfl ?_
    refine ld1_r r5d (v := I (dw a)) rfl ?_
    simp only [e_fd, e_nck, e_pkt, e_pkf, e_gdtt, e_gdtf, e_gdft, e_gdff, e_ift, e_iff, e_not, e_ln, e_lnT, e_cp, e_cvi, e_ex20, e_ex21, e_ex30, e_ex31, e_ex32, e_add, e_sub, e_mul, e_quo, e_rem, e_and, e_or, e_xor, e_shl, e_shr, e_eql, e_neq, e_lss, e_leq, e_gtr, e_geq, e_beq, e_bne, e_peq1, e_peq2, e_pne1, e_pne2, e_zeq1, e_zeq2, e_zne1, e_zne2, e_feq1, e_fne1, e_feq2, e_fne2, e_seq, e_sne, e_ta1, e_ta2, Nat.zero_add, Nat.add_zero, Bool.not_true, Bool.not_false]
    rw [wrap64_id (n := now - dw a) (by omega) (by omega), wrap64_id (by omega) (by omega), show now - dw a + 1 = fst1 now a by unfold fst1; omega]
    unfold s21_p11
    refine Sl.empty (f := Ctr.cells) (k := 4) fun w6 hs6 hk6 hz6 => ?_
    refine lm_row (wr := w5) (h.kp hw5) hlt hk6 hs6 (Nat.le_refl _) fun w7 rb rv hk7 hs7 hrb => ?_
    have hw7 := hw5.trans hk7
    have hV7 := (hV.kp hk5).kp hk7
    have r37 := hk7.row' (hk5.row' rb3)
    have r27 := hk7.row' (hk5.row' rb2)
    have hz5 := hk5.size
    have hz7 := hk7.size
    unfold s21_p3
    unfold ptr
    simp only [e_fd, e_nck, e_pkt, e_pkf, e_gdtt, e_gdtf, e_gdft, e_gdff, e_ift, e_iff, e_not, e_ln, e_lnT, e_cp, e_cvi, e_ex20, e_ex21, e_ex30, e_ex31, e_ex32, e_add, e_sub, e_mul, e_quo, e_rem, e_and, e_or, e_xor, e_shl, e_shr, e_eql, e_neq, e_lss, e_leq, e_gtr, e_geq, e_beq, e_bne, e_peq1, e_peq2, e_pne1, e_pne2, e_zeq1, e_zeq2, e_zne1, e_zne2, e_feq1, e_fne1, e_feq2, e_fne2, e_seq, e_sne, e_ta1, e_ta2, Nat.zero_add, Nat.add_zero, Bool.not_true, Bool.not_false]
    refine ld1_r r37 rfl ?_
    refine hV7.f.app i1_length rfl (fst1 now a) rfl (by simp; omega) (by simp; omega) rfl fun w8 fv' fob' hs8 hk8 ho8 => ?_
    have hV8 := hV7.addF (by omega) hs8 hk8 ho8
    have r38 := hk8.row r37 (hV7.f.ne r37 (by decide))
    have r28 := hk8.row r27 (hV7.f.ne r27 (by decide))
    refine st1_r r38 (Nat.le_of_ble_eq_true rfl) hV8.scal.1 fun w9 r39 hk9 hz9 => ?_
    replace r39 : Row w9 b3 43 [.bool true, I now, fv', sv] := r39
    have hV9 : VP w9 fob' fv' sob sv _ its b2 := hV8.kp1 hk9 r38 (by decide) (by decide) (by decide)
    have r29 := hk9.row r28 (by intro (e : b2 = b3); omega)
    have hrow9 : Sl Ctr.cells 4 w9 61 (some rb) rv (rowOf now L a) := by
      refine ((hs7.kp hk8 ?_).kp hk9 ?_)
      · intro b hb q
        obtain ⟨l, hr⟩ := hs7.row hb
        exact hV7.f.ne hr (by decide) q
      · intro b hb (e : b = b3)
        have : rb = b := by simpa using hb
        have := rb3.lt
        omega
    refine ld1_r r39 rfl ?_
    have hsc : scal rv = true := by obtain ⟨_, _, e, _⟩ := hs7; rw [e]; rfl
    have hits : its.length = a := by have := congrArg List.length hcs; simpa using this
    have hrvc : ∃ q n c, rv = .slice q n c := by obtain ⟨_, _, e, _⟩ := hs7; exact ⟨_, _, _, e⟩
    refine hV9.s.app it1_length rfl ⟨rb, rv, rowOf now L a⟩ (by simp [it1, hsc]) (by omega) (by omega) (by obtain ⟨q, n, c, e⟩ := hrvc; subst e; rfl) fun w10 sv' sob' hs10 hk10 ho10 => ?_
    have hz8 := hk8.size
    have hz9' := hk9.size
    have hV10 := hV9.addS (by omega) hrow9 (by show b2 ≤ rb; omega) (by
      intro y hy
      have hyl : y.rb < w5.heap.size := by obtain ⟨l, hr⟩ := ((hV.kp hk5).r y hy).row rfl; exact hr.lt
      show y.rb ≠ rb
      omega) hs10 hk10 ho10
    have r310 := hk10.row r39 (hV9.s.ne r39 (by decide))
    have r210 := hk10.row r29 (hV9.s.ne r29 (by decide))
    refine st1_r r310 (Nat.le_of_ble_eq_true rfl) hV10.scal.2 fun w11 r311 hk11 hz11 => ?_
    replace r311 : Row w11 b3 43 [.bool true, I now, fv', sv'] := r311
    unfold s21_p2
    simp only [e_fd, e_nck, e_pkt, e_pkf, e_gdtt, e_gdtf, e_gdft, e_gdff, e_ift, e_iff, e_not, e_ln, e_lnT, e_cp, e_cvi, e_ex20, e_ex21, e_ex30, e_ex31, e_ex32, e_add, e_sub, e_mul, e_quo, e_rem, e_and, e_or, e_xor, e_shl, e_shr, e_eql, e_neq, e_lss, e_leq, e_gtr, e_geq, e_beq, e_bne, e_peq1, e_peq2, e_pne1, e_pne2, e_zeq1, e_zeq2, e_zne1, e_zne2, e_feq1, e_fne1, e_feq2, e_fne2, e_seq, e_sne, e_ta1, e_ta2, Nat.zero_add, Nat.add_zero, Bool.not_true, Bool.not_false]
    rw [wrap64_id (by omega) (by omega)]
    have hk11' : Kp (fun _ => False) w0 w11 := by
      refine (((hw7.then hk8 ?_).then hk9 ?_).then hk10 ?_).then hk11 ?_
      · intro x hx e; have := hV.fl x e; omega
      · intro x hx (e : x = b3); omega
      · intro x hx e; have := hV.sl x e; omega
      · intro x hx (e : x = b3); omega
    refine ⟨4 - (a + 1), by omega, a + 1, fob', fv', sob', sv', its ++ [⟨rb, rv, rowOf now L a⟩], by omega, rfl, by simp [ptr], hk11', hk11.row r210 (by intro (e : b2 = b3); omega), r311, ?_, ?_⟩
    · rw [List.range_succ, List.map_append]
      exact hV10.kp1 hk11 r310 (by decide) (by decide) (by decide)
    · rw [List.range_succ, List.map_append, List.map_append, hcs]; rfl
  · have hlt' : ¬ (a : Int) < 4 := by omega
    simp only [hlt', decide_false, e_fd, e_nck, e_pkt, e_pkf, e_gdtt, e_gdtf, e_gdft, e_gdff, e_ift, e_iff, e_not, e_ln, e_lnT, e_cp, e_cvi, e_ex20, e_ex21, e_ex30, e_ex31, e_ex32, e_add, e_sub, e_mul, e_quo, e_rem, e_and, e_or, e_xor, e_shl, e_shr, e_eql, e_neq, e_lss, e_leq, e_gtr, e_geq, e_beq, e_bne, e_peq1, e_peq2, e_pne1, e_pne2, e_zeq1, e_zeq2, e_zne1, e_zne2, e_feq1, e_fne1, e_feq2, e_fne2, e_seq, e_sne, e_ta1, e_ta2, Nat.zero_add, Nat.add_zero, Bool.not_true, Bool.not_false]
    have : a = 4 := by omega
    subst this
    unfold s21_p1 ptr
    refine ldn_r rb3 (Nat.le_of_ble_eq_true rfl) ?_
    have hsc := hV.scal
    refine stn_r (cs := [.bool true, I now, fv, sv]) rb2 rfl (Nat.le_of_ble_eq_true rfl) (by show (true && (true && (scal fv && (scal sv && true)))) = true; rw [hsc.1, hsc.2]; rfl) fun w5 r5 hk5 hz5 => ?_
    refine ldn_r r5 (Nat.le_of_ble_eq_true rfl) ?_
    refine hK w5 _ ⟨fob, fv, sob, sv, its, rfl, hV.kp1 hk5 rb2 (by decide) (by decide) (by decide), hcs.symm⟩ ?_
    exact hw.then hk5 (by intro x hx (e : x = b2); omega)

/-! ### Refines -/
section
variable {W w : World} {d tb m ab : Nat} {now : Int} {ts : List Tab} {L : List Ent} {ob : Option Nat} {lv : Value} {K : Value → World → Prop} {B1 : List Value → World → Prop} {v : Value}
theorem ref3_round {ops : List Op} {i : Nat} (hs : Scr W v ops) (hi : i ≤ ops.length) (hlen : ops.length ≤ 65536) (h0 : MS W w d tb m ab now ts L ob lv) (hL : L.length ≤ i)
    (hE : ∀ w', W.heap.size ≤ w'.heap.size → Below W.heap.size W w' → K (.bool true) w')
    (hB : ∀ w' now' ts' L' ob' lv', MS W w' d tb m ab now' ts' L' ob' lv' → i < ops.length → L'.length ≤ L.length + 1 → B1 [ptr d, ptr m, v, I ops.length, I (i + 1 : Nat)] w') : s3_p2 K B1 (ptr d) (ptr m) v (I ops.length) (I i) w := by
  unfold s3_p2
  simp only [e_fd, e_nck, e_pkt, e_pkf, e_gdtt, e_gdtf, e_gdft, e_gdff, e_ift, e_iff, e_not, e_ln, e_lnT, e_cp, e_cvi, e_ex20, e_ex21, e_ex30, e_ex31, e_ex32, e_add, e_sub, e_mul, e_quo, e_rem, e_and, e_or, e_xor, e_shl, e_shr, e_eql, e_neq, e_lss, e_leq, e_gtr, e_geq, e_beq, e_bne, e_peq1, e_peq2, e_pne1, e_pne2, e_zeq1, e_zeq2, e_zne1, e_zne2, e_feq1, e_fne1, e_feq2, e_fne2, e_seq, e_sne, e_ta1, e_ta2, Nat.zero_add, Nat.add_zero, Bool.not_true, Bool.not_false]
  by_cases hlt : i < ops.length
  · have hlt' : (i : Int) < (ops.length : Int) := by omega
    simp only [hlt', decide_true, e_fd, e_nck, e_pkt, e_pkf, e_gdtt, e_gdtf, e_gdft, e_gdff, e_ift, e_iff, e_not, e_ln, e_lnT, e_cp, e_cvi, e_ex20, e_ex21, e_ex30, e_ex31, e_ex32, e_add, e_sub, e_mul, e_quo, e_rem, e_and, e_or, e_xor, e_shl, e_shr, e_eql, e_neq, e_lss, e_leq, e_gtr, e_geq, e_beq, e_bne, e_peq1, e_peq2, e_pne1, e_pne2, e_zeq1, e_zeq2, e_zne1, e_zne2, e_feq1, e_fne1, e_feq2, e_fne2, e_seq, e_sne, e_ta1, e_ta2, Nat.zero_add, Nat.add_zero, Bool.not_true, Bool.not_false]
    refine hs.take h0.st.bel hlt fun w1 b hr hb1 hbb => ?_
    have h1 := h0.kp hb1
    have ho := hs.1 _ (List.getElem_mem hlt)
    generalize hgo : ops[i] = o at *
    refine ldn_r hr (Nat.le_of_ble_eq_true rfl) ?_
    refine play_st (o := o) h1.st fun w2 h2 hk2 => ?_
    have hr2 := h1.st.tabs.notP hr (by decide) (by decide) (by decide) hk2
    simp only [e_fd, e_nck, e_pkt, e_pkf, e_gdtt, e_gdtf, e_gdft, e_gdff, e_ift, e_iff, e_not, e_ln, e_lnT, e_cp, e_cvi, e_ex20, e_ex21, e_ex30, e_ex31, e_ex32, e_add, e_sub, e_mul, e_quo, e_rem, e_and, e_or, e_xor, e_shl, e_shr, e_eql, e_neq, e_lss, e_leq, e_gtr, e_geq, e_beq, e_bne, e_peq1, e_peq2, e_pne1, e_pne2, e_zeq1, e_zeq2, e_zne1, e_zne2, e_feq1, e_fne1, e_feq2, e_fne2, e_seq, e_sne, e_ta1, e_ta2, Nat.zero_add, Nat.add_zero, Bool.not_true, Bool.not_false]
    refine ldn_r hr2 (Nat.le_of_ble_eq_true rfl) ?_
    refine h1.both ho (by omega) h2 hk2 fun w3 ob' lv' h3 _ => ?_
    have e1 : ((stepP now ts o).code != (stepP now ts o).code) = false := by simp
    have e2 : ((stepP now ts o).val != (stepP now ts o).val) = false := by simp
    simp only [e1, e2, e_fd, e_nck, e_pkt, e_pkf, e_gdtt, e_gdtf, e_gdft, e_gdff, e_ift, e_iff, e_not, e_ln, e_lnT, e_cp, e_cvi, e_ex20, e_ex21, e_ex30, e_ex31, e_ex32, e_add, e_sub, e_mul, e_quo, e_rem, e_and, e_or, e_xor, e_shl, e_shr, e_eql, e_neq, e_lss, e_leq, e_gtr, e_geq, e_beq, e_bne, e_peq1, e_peq2, e_pne1, e_pne2, e_zeq1, e_zeq2, e_zne1, e_zne2, e_feq1, e_fne1, e_feq2, e_fne2, e_seq, e_sne, e_ta1, e_ta2, Nat.zero_add, Nat.add_zero, Bool.not_true, Bool.not_false]
    refine look_ok h3.st fun w4 val4 hv4 hk4 => ?_
    refine lm_ok (h3.mod.kp hk4) fun w5 val5 hv5 hk5 => ?_
    refine same_vw (hv4.kp hk5) hv5 fun w6 hk6 => ?_
    simp only [e_fd, e_nck, e_pkt, e_pkf, e_gdtt, e_gdtf, e_gdft, e_gdff, e_ift, e_iff, e_not, e_ln, e_lnT, e_cp, e_cvi, e_ex20, e_ex21, e_ex30, e_ex31, e_ex32, e_add, e_sub, e_mul, e_quo, e_rem, e_and, e_or, e_xor, e_shl, e_shr, e_eql, e_neq, e_lss, e_leq, e_gtr, e_geq, e_beq, e_bne, e_peq1, e_peq2, e_pne1, e_pne2, e_zeq1, e_zeq2, e_zne1, e_zne2, e_feq1, e_fne1, e_feq2, e_fne2, e_seq, e_sne, e_ta1, e_ta2, Nat.zero_add, Nat.add_zero, Bool.not_true, Bool.not_false, Bool.not_true]
    rw [wrap64_id (by omega) (by omega)]
    have := hB w6 _ _ _ _ _ (((h3.kp hk4).kp hk5).kp hk6) hlt (stepL_len now L o)
    have ei : (((i + 1 : Nat) : Nat) : Int) = (i : Int) + 1 := by omega
    rw [ei] at this
    exact this
  · have hlt' : ¬ (i : Int) < (ops.length : Int) := by omega
    simp only [hlt', decide_false, e_fd, e_nck, e_pkt, e_pkf, e_gdtt, e_gdtf, e_gdft, e_gdff, e_ift, e_iff, e_not, e_ln, e_lnT, e_cp, e_cvi, e_ex20, e_ex21, e_ex30, e_ex31, e_ex32, e_add, e_sub, e_mul, e_quo, e_rem, e_and, e_or, e_xor, e_shl, e_shr, e_eql, e_neq, e_lss, e_leq, e_gtr, e_geq, e_beq, e_bne, e_peq1, e_peq2, e_pne1, e_pne2, e_zeq1, e_zeq2, e_zne1, e_zne2, e_feq1, e_fne1, e_feq2, e_fne2, e_seq, e_sne, e_ta1, e_ta2, Nat.zero_add, Nat.add_zero, Bool.not_true, Bool.not_false]
    unfold s3_p1
    exact hE w h0.st.bel.size h0.st.bel
end

theorem ref3_law {W : World} {v : Value} {ops : List Op} (hs : Scr W v ops) : cl Try.prog 3 #[v] (fun r w' => r = .bool true ∧ Below W.heap.size W w') W := by
  apply c3
  unfold s3_p4
  refine small_ok hs ?_
  simp only [e_fd, e_nck, e_pkt, e_pkf, e_gdtt, e_gdtf, e_gdft, e_gdff, e_ift, e_iff, e_not, e_ln, e_lnT, e_cp, e_cvi, e_ex20, e_ex21, e_ex30, e_ex31, e_ex32, e_add, e_sub, e_mul, e_quo, e_rem, e_and, e_or, e_xor, e_shl, e_shr, e_eql, e_neq, e_lss, e_leq, e_gtr, e_geq, e_beq, e_bne, e_peq1, e_peq2, e_pne1, e_pne2, e_zeq1, e_zeq2, e_zne1, e_zne2, e_feq1, e_fne1, e_feq2, e_fne2, e_seq, e_sne, e_ta1, e_ta2, Nat.zero_add, Nat.add_zero, Bool.not_true, Bool.not_false]
  by_cases hsm : ops.length ≤ 65536
  · rw [decide_eq_true hsm]
    simp only [Bool.not_true, e_fd, e_nck, e_pkt, e_pkf, e_gdtt, e_gdtf, e_gdft, e_gdff, e_ift, e_iff, e_not, e_ln, e_lnT, e_cp, e_cvi, e_ex20, e_ex21, e_ex30, e_ex31, e_ex32, e_add, e_sub, e_mul, e_quo, e_rem, e_and, e_or, e_xor, e_shl, e_shr, e_eql, e_neq, e_lss, e_leq, e_gtr, e_geq, e_beq, e_bne, e_peq1, e_peq2, e_pne1, e_pne2, e_zeq1, e_zeq2, e_zne1, e_zne2, e_feq1, e_fne1, e_feq2, e_fne2, e_seq, e_sne, e_ta1, e_ta2, Nat.zero_add, Nat.add_zero, Bool.not_true, Bool.not_false]
    refine fresh_st fun w0 d tb ts0 h0 hk0 hd0 => ?_
    refine park_ok fun w1 ab hab r1 hb1 => ?_
    refine mnew_ok r1 fun w2 m hm hb2 hmz => ?_
    have hz0 := hk0.size
    have hz1 := hb1.size
    have hS0 : MS W w2 d tb m ab 0 ts0 [] none (.slice none 0 0) := ⟨(h0.kp hb1).kp hb2, hm, by omega, by simp⟩
    refine hs.ln ?_
    refine ⟨fun q l w => ∃ (i : Nat) (now : Int) (ts : List Tab) (L : List Ent) (ob : Option Nat) (lv : Value), i ≤ ops.length ∧ q = ops.length - i ∧ L.length ≤ i ∧ l = [ptr d, ptr m, v, I ops.length, I i] ∧ MS W w d tb m ab now ts L ob lv,
      ops.length, ⟨0, 0, ts0, [], none, _, by omega, by omega, by simp, rfl, hS0⟩, ?_⟩
    rintro q l w ⟨i, now, ts, L, ob, lv, hi, hq, hLi, rfl, h⟩
    rw [s3_p3_Fe]
    refine ref3_round hs hi hsm h hLi (fun w' _ hb => ⟨rfl, hb⟩) fun w' now' ts' L' ob' lv' h' hlt hl' => ?_
    exact ⟨ops.length - (i + 1), by omega, i + 1, now', ts', L', ob', lv', by omega, rfl, by omega, rfl, h'⟩
  · rw [decide_eq_false hsm]
    simp only [Bool.not_false, e_fd, e_nck, e_pkt, e_pkf, e_gdtt, e_gdtf, e_gdft, e_gdff, e_ift, e_iff, e_not, e_ln, e_lnT, e_cp, e_cvi, e_ex20, e_ex21, e_ex30, e_ex31, e_ex32, e_add, e_sub, e_mul, e_quo, e_rem, e_and, e_or, e_xor, e_shl, e_shr, e_eql, e_neq, e_lss, e_leq, e_gtr, e_geq, e_beq, e_bne, e_peq1, e_peq2, e_pne1, e_pne2, e_zeq1, e_zeq2, e_zne1, e_zne2, e_feq1, e_fne1, e_feq2, e_fne2, e_seq, e_sne, e_ta1, e_ta2, Nat.zero_add, Nat.add_zero, Bool.not_true, Bool.not_false]
    exact ⟨trivial, Below.refl _ _⟩

theorem ref3_walk {W : World} {v : Value} {ops : List Op} (hs : Scr W v ops) : Calls Try.prog 3 #[v] W fun e w' => e = .returned (.bool true) ∧ Below W.heap.size W w' :=
  Calls.mono (ref3_law hs) fun e w' ⟨v, he, hv, hb⟩ => ⟨by rw [he, hv], hb⟩
end Go.Proofs.Qxb6500897a
