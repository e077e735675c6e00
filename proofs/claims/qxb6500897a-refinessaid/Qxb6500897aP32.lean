import Derived.Test.Qxb6500897aP31
namespace Go.Proofs.Qxb6500897a
open Go.Sh Go.RowKit
set_option linter.unusedVariables false
set_option linter.unusedSimpArgs false

/-! ### DwellIsCarriedPastTheHorizon -/
/-- a party of the law -/
def pc (e : Ent) : List Value := [I e.attr, I e.slot, I e.n]
theorem pc_length (e : Ent) : (pc e).length = 3 := rfl

def ptr (b : Nat) : Value := .pointer (some ⟨b, 0, none⟩)

/-- the park, in memory -/
structure ParkAt (w : World) (cb ab : Nat) : Prop where
  top : Row w cb 30 [I 6, I 90, .slice (some ⟨ab, 0, none⟩) 4 4]
  atts : Row w ab 59 (rows Att.cells parkA)
theorem ParkAt.kp' {w w' : World} {cb ab : Nat} (h : ParkAt w cb ab) (hk : Kp (fun _ => False) w w') : ParkAt w' cb ab := ⟨hk.row' h.top, hk.row' h.atts⟩
theorem parkA_len : parkA.length = 4 := rfl
theorem parkA_at {a : Nat} (ha : a < parkA.length) : parkA[a] = pa a := by unfold pa; simp [List.getD, ha]

section
variable {W w0 w : World} {d tb cb ab : Nat} {now was : Int} {ts : List Tab} {L : List Ent} {ob : Option Nat} {pv : Value} {K : Value → World → Prop} {B1 B2 B3 B4 : List Value → World → Prop} {v ln ii : Value}

/-- the sum over the parties -/
theorem dwl_sum {a vb : Nat} {s : Int} {at4 : Value} (h0 : St W w0 d tb now ts L) (hsl : Sl pc 3 w0 72 ob pv L) (hbn : Bnd L) (hL : L.length ≤ 65536) (hrv : Row w0 vb 59 (pa a).cells) (ha : a < 4) (hw : Kp (fun _ => False) w0 w)
    (hK : ∀ w', Kp (fun _ => False) w0 w' → s8_p7 K B1 B2 B3 pv (ptr d) (ptr cb) (I was) (I a) (ptr vb) (I s) (I (ins L a (dw a) s)) v ln ii at4 (I 4) (I a) w') :
    s8_p10 K B1 B2 B3 pv (ptr d) (ptr cb) (I was) (I a) (ptr vb) (I s) (I 0) v ln ii at4 (I 4) (I a) pv (I L.length) (I 0) w := by
  have hdw : (pa a).dwell = dw a := rfl
  have hb := pa_bd a
  refine ⟨fun m l w => ∃ j : Nat, j ≤ L.length ∧ m = L.length - j ∧ Kp (fun _ => False) w0 w ∧
      l = [pv, ptr d, ptr cb, I was, I a, ptr vb, I s, I (ins (L.take j) a (dw a) s), v, ln, ii, at4, I 4, I a, pv, I L.length, I j],
    L.length, ⟨0, by omega, by omega, hw, by simp [ins]⟩, ?_⟩
  rintro m l w ⟨j, hj, hm, hw, rfl⟩
  rw [s8_p10_Fe]
  unfold s8_p9
  simp only [e_fd, e_nck, e_pkt, e_pkf, e_gdtt, e_gdtf, e_gdft, e_gdff, e_ift, e_iff, e_not, e_ln, e_lnT, e_cp, e_cvi, e_ex20, e_ex21, e_ex30, e_ex31, e_ex32, e_add, e_sub, e_mul, e_quo, e_rem, e_and, e_or, e_xor, e_shl, e_shr, e_eql, e_neq, e_lss, e_leq, e_gtr, e_geq, e_beq, e_bne, e_peq1, e_peq2, e_pne1, e_pne2, e_zeq1, e_zeq2, e_zne1, e_zne2, e_feq1, e_fne1, e_feq2, e_fne2, e_seq, e_sne, e_ta1, e_ta2, Nat.zero_add, Nat.add_zero, Bool.not_true, Bool.not_false]
  by_cases hlt : j < L.length
  · have hlt' : (j : Int) < (L.length : Int) := by omega
    simp only [hlt', decide_true, e_fd, e_nck, e_pkt, e_pkf, e_gdtt, e_gdtf, e_gdft, e_gdff, e_ift, e_iff, e_not, e_ln, e_lnT, e_cp, e_cvi, e_ex20, e_ex21, e_ex30, e_ex31, e_ex32, e_add, e_sub, e_mul, e_quo, e_rem, e_and, e_or, e_xor, e_shl, e_shr, e_eql, e_neq, e_lss, e_leq, e_gtr, e_geq, e_beq, e_bne, e_peq1, e_peq2, e_pne1, e_pne2, e_zeq1, e_zeq2, e_zne1, e_zne2, e_feq1, e_fne1, e_feq2, e_fne2, e_seq, e_sne, e_ta1, e_ta2, Nat.zero_add, Nat.add_zero, Bool.not_true, Bool.not_false]
    refine (hsl.kp' hw).read pc_length hlt ?_
    refine nw_r fun w1 r1 hb1 hz1 => ?_
    refine stn_r r1 rfl (Nat.le_of_ble_eq_true rfl) rfl fun w2 r2 hb2 hz2 => ?_
    replace r2 : Row w2 w.heap.size 72 [I L[j].attr, I L[j].slot, I L[j].n] := r2
    have k2 : Kp (fun _ => False) w0 w2 := hw.trans (hb1.then hb2 (by intro k hk (e : k = _); omega))
    have hrv2 := k2.row' hrv
    have hbe := hbn L[j] (List.getElem_mem hlt)
    have hin := hbn.ins j a (dw a) s
    have hin1 := hbn.ins (j + 1) a (dw a) s
    have es : ins (L.take (j + 1)) a (dw a) s = ins (L.take j) a (dw a) s + insT a (dw a) s L[j] := by rw [take_succ' hlt, ins_append]
    -- the next round
    have next : ∀ q : Int, q = ins (L.take (j + 1)) a (dw a) s → s8_p8 K B1 B2 B3 (fun l' w' => ∃ m', m' < m ∧ ∃ j : Nat, j ≤ L.length ∧ m' = L.length - j ∧ Kp (fun _ => False) w0 w' ∧
      l' = [pv, ptr d, ptr cb, I was, I a, ptr vb, I s, I (ins (L.take j) a (dw a) s), v, ln, ii, at4, I 4, I a, pv, I L.length, I j]) pv (ptr d) (ptr cb) (I was) (I a) (ptr vb) (I s) (I q) v ln ii at4 (I 4) (I a) pv (I L.length) (I j) w2 := by
      intro q hq
      unfold s8_p8
      simp only [e_fd, e_nck, e_pkt, e_pkf, e_gdtt, e_gdtf, e_gdft, e_gdff, e_ift, e_iff, e_not, e_ln, e_lnT, e_cp, e_cvi, e_ex20, e_ex21, e_ex30, e_ex31, e_ex32, e_add, e_sub, e_mul, e_quo, e_rem, e_and, e_or, e_xor, e_shl, e_shr, e_eql, e_neq, e_lss, e_leq, e_gtr, e_geq, e_beq, e_bne, e_peq1, e_peq2, e_pne1, e_pne2, e_zeq1, e_zeq2, e_zne1, e_zne2, e_feq1, e_fne1, e_feq2, e_fne2, e_seq, e_sne, e_ta1, e_ta2, Nat.zero_add, Nat.add_zero, Bool.not_true, Bool.not_false]
      rw [wrap64_id (by omega) (by omega)]
      exact ⟨L.length - (j + 1), by omega, j + 1, by omega, rfl, k2, by rw [hq]; simp⟩
    simp only [e_fd, e_nck, e_pkt, e_pkf, e_gdtt, e_gdtf, e_gdft, e_gdff, e_ift, e_iff, e_not, e_ln, e_lnT, e_cp, e_cvi, e_ex20, e_ex21, e_ex30, e_ex31, e_ex32, e_add, e_sub, e_mul, e_quo, e_rem, e_and, e_or, e_xor, e_shl, e_shr, e_eql, e_neq, e_lss, e_leq, e_gtr, e_geq, e_beq, e_bne, e_peq1, e_peq2, e_pne1, e_pne2, e_zeq1, e_zeq2, e_zne1, e_zne2, e_feq1, e_fne1, e_feq2, e_fne2, e_seq, e_sne, e_ta1, e_ta2, Nat.zero_add, Nat.add_zero, Bool.not_true, Bool.not_false]
    refine ld1_r r2 rfl ?_
    simp only [e_fd, e_nck, e_pkt, e_pkf, e_gdtt, e_gdtf, e_gdft, e_gdff, e_ift, e_iff, e_not, e_ln, e_lnT, e_cp, e_cvi, e_ex20, e_ex21, e_ex30, e_ex31, e_ex32, e_add, e_sub, e_mul, e_quo, e_rem, e_and, e_or, e_xor, e_shl, e_shr, e_eql, e_neq, e_lss, e_leq, e_gtr, e_geq, e_beq, e_bne, e_peq1, e_peq2, e_pne1, e_pne2, e_zeq1, e_zeq2, e_zne1, e_zne2, e_feq1, e_fne1, e_feq2, e_fne2, e_seq, e_sne, e_ta1, e_ta2, Nat.zero_add, Nat.add_zero, Bool.not_true, Bool.not_false]
    unfold insT at es
    by_cases h1 : L[j].attr = a
    · have e1 : ((L[j].attr : Int) == (a : Int)) = true := by simp; omega
      simp only [e1, e_fd, e_nck, e_pkt, e_pkf, e_gdtt, e_gdtf, e_gdft, e_gdff, e_ift, e_iff, e_not, e_ln, e_lnT, e_cp, e_cvi, e_ex20, e_ex21, e_ex30, e_ex31, e_ex32, e_add, e_sub, e_mul, e_quo, e_rem, e_and, e_or, e_xor, e_shl, e_shr, e_eql, e_neq, e_lss, e_leq, e_gtr, e_geq, e_beq, e_bne, e_peq1, e_peq2, e_pne1, e_pne2, e_zeq1, e_zeq2, e_zne1, e_zne2, e_feq1, e_fne1, e_feq2, e_fne2, e_seq, e_sne, e_ta1, e_ta2, Nat.zero_add, Nat.add_zero, Bool.not_true, Bool.not_false]
      refine ld1_r r2 rfl ?_
      simp only [e_fd, e_nck, e_pkt, e_pkf, e_gdtt, e_gdtf, e_gdft, e_gdff, e_ift, e_iff, e_not, e_ln, e_lnT, e_cp, e_cvi, e_ex20, e_ex21, e_ex30, e_ex31, e_ex32, e_add, e_sub, e_mul, e_quo, e_rem, e_and, e_or, e_xor, e_shl, e_shr, e_eql, e_neq, e_lss, e_leq, e_gtr, e_geq, e_beq, e_bne, e_peq1, e_peq2, e_pne1, e_pne2, e_zeq1, e_zeq2, e_zne1, e_zne2, e_feq1, e_fne1, e_feq2, e_fne2, e_seq, e_sne, e_ta1, e_ta2, Nat.zero_add, Nat.add_zero, Bool.not_true, Bool.not_false]
      by_cases h2 : L[j].slot ≤ s
      · simp only [h2, decide_true, e_fd, e_nck, e_pkt, e_pkf, e_gdtt, e_gdtf, e_gdft, e_gdff, e_ift, e_iff, e_not, e_ln, e_lnT, e_cp, e_cvi, e_ex20, e_ex21, e_ex30, e_ex31, e_ex32, e_add, e_sub, e_mul, e_quo, e_rem, e_and, e_or, e_xor, e_shl, e_shr, e_eql, e_neq, e_lss, e_leq, e_gtr, e_geq, e_beq, e_bne, e_peq1, e_peq2, e_pne1, e_pne2, e_zeq1, e_zeq2, e_zne1, e_zne2, e_feq1, e_fne1, e_feq2, e_fne2, e_seq, e_sne, e_ta1, e_ta2, Nat.zero_add, Nat.add_zero, Bool.not_true, Bool.not_false]
        refine ld1_r r2 rfl ?_
        unfold ptr
        simp only [e_fd, e_nck, e_pkt, e_pkf, e_gdtt, e_gdtf, e_gdft, e_gdff, e_ift, e_iff, e_not, e_ln, e_lnT, e_cp, e_cvi, e_ex20, e_ex21, e_ex30, e_ex31, e_ex32, e_add, e_sub, e_mul, e_quo, e_rem, e_and, e_or, e_xor, e_shl, e_shr, e_eql, e_neq, e_lss, e_leq, e_gtr, e_geq, e_beq, e_bne, e_peq1, e_peq2, e_pne1, e_pne2, e_zeq1, e_zeq2, e_zne1, e_zne2, e_feq1, e_fne1, e_feq2, e_fne2, e_seq, e_sne, e_ta1, e_ta2, Nat.zero_add, Nat.add_zero, Bool.not_true, Bool.not_false]
        refine ld1_r hrv2 rfl ?_
        simp only [e_fd, e_nck, e_pkt, e_pkf, e_gdtt, e_gdtf, e_gdft, e_gdff, e_ift, e_iff, e_not, e_ln, e_lnT, e_cp, e_cvi, e_ex20, e_ex21, e_ex30, e_ex31, e_ex32, e_add, e_sub, e_mul, e_quo, e_rem, e_and, e_or, e_xor, e_shl, e_shr, e_eql, e_neq, e_lss, e_leq, e_gtr, e_geq, e_beq, e_bne, e_peq1, e_peq2, e_pne1, e_pne2, e_zeq1, e_zeq2, e_zne1, e_zne2, e_feq1, e_fne1, e_feq2, e_fne2, e_seq, e_sne, e_ta1, e_ta2, Nat.zero_add, Nat.add_zero, Bool.not_true, Bool.not_false]
        rw [wrap64_id (by omega) (by omega)]
        by_cases h3 : s < L[j].slot + (pa a).dwell
        · simp only [h3, decide_true, e_fd, e_nck, e_pkt, e_pkf, e_gdtt, e_gdtf, e_gdft, e_gdff, e_ift, e_iff, e_not, e_ln, e_lnT, e_cp, e_cvi, e_ex20, e_ex21, e_ex30, e_ex31, e_ex32, e_add, e_sub, e_mul, e_quo, e_rem, e_and, e_or, e_xor, e_shl, e_shr, e_eql, e_neq, e_lss, e_leq, e_gtr, e_geq, e_beq, e_bne, e_peq1, e_peq2, e_pne1, e_pne2, e_zeq1, e_zeq2, e_zne1, e_zne2, e_feq1, e_fne1, e_feq2, e_fne2, e_seq, e_sne, e_ta1, e_ta2, Nat.zero_add, Nat.add_zero, Bool.not_true, Bool.not_false]
          refine ld1_r r2 rfl ?_
          simp only [e_fd, e_nck, e_pkt, e_pkf, e_gdtt, e_gdtf, e_gdft, e_gdff, e_ift, e_iff, e_not, e_ln, e_lnT, e_cp, e_cvi, e_ex20, e_ex21, e_ex30, e_ex31, e_ex32, e_add, e_sub, e_mul, e_quo, e_rem, e_and, e_or, e_xor, e_shl, e_shr, e_eql, e_neq, e_lss, e_leq, e_gtr, e_geq, e_beq, e_bne, e_peq1, e_peq2, e_pne1, e_pne2, e_zeq1, e_zeq2, e_zne1, e_zne2, e_feq1, e_fne1, e_feq2, e_fne2, e_seq, e_sne, e_ta1, e_ta2, Nat.zero_add, Nat.add_zero, Bool.not_true, Bool.not_false]
          rw [if_pos ⟨h1, h2, h3⟩] at es
          rw [wrap64_id (by omega) (by omega)]
          exact next _ es.symm
        · simp only [h3, decide_false, e_fd, e_nck, e_pkt, e_pkf, e_gdtt, e_gdtf, e_gdft, e_gdff, e_ift, e_iff, e_not, e_ln, e_lnT, e_cp, e_cvi, e_ex20, e_ex21, e_ex30, e_ex31, e_ex32, e_add, e_sub, e_mul, e_quo, e_rem, e_and, e_or, e_xor, e_shl, e_shr, e_eql, e_neq, e_lss, e_leq, e_gtr, e_geq, e_beq, e_bne, e_peq1, e_peq2, e_pne1, e_pne2, e_zeq1, e_zeq2, e_zne1, e_zne2, e_feq1, e_fne1, e_feq2, e_fne2, e_seq, e_sne, e_ta1, e_ta2, Nat.zero_add, Nat.add_zero, Bool.not_true, Bool.not_false]
          rw [if_neg (fun q => h3 q.2.2)] at es
          exact next _ (by omega)
      · simp only [h2, decide_false, e_fd, e_nck, e_pkt, e_pkf, e_gdtt, e_gdtf, e_gdft, e_gdff, e_ift, e_iff, e_not, e_ln, e_lnT, e_cp, e_cvi, e_ex20, e_ex21, e_ex30, e_ex31, e_ex32, e_add, e_sub, e_mul, e_quo, e_rem, e_and, e_or, e_xor, e_shl, e_shr, e_eql, e_neq, e_lss, e_leq, e_gtr, e_geq, e_beq, e_bne, e_peq1, e_peq2, e_pne1, e_pne2, e_zeq1, e_zeq2, e_zne1, e_zne2, e_feq1, e_fne1, e_feq2, e_fne2, e_seq, e_sne, e_ta1, e_ta2, Nat.zero_add, Nat.add_zero, Bool.not_true, Bool.not_false]
        rw [if_neg (fun q => h2 q.2.1)] at es
        exact next _ (by omega)
    · have e1 : ((L[j].attr : Int) == (a : Int)) = false := by simp; omega
      simp only [e1, e_fd, e_nck, e_pkt, e_pkf, e_gdtt, e_gdtf, e_gdft, e_gdff, e_ift, e_iff, e_not, e_ln, e_lnT, e_cp, e_cvi, e_ex20, e_ex21, e_ex30, e_ex31, e_ex32, e_add, e_sub, e_mul, e_quo, e_rem, e_and, e_or, e_xor, e_shl, e_shr, e_eql, e_neq, e_lss, e_leq, e_gtr, e_geq, e_beq, e_bne, e_peq1, e_peq2, e_pne1, e_pne2, e_zeq1, e_zeq2, e_zne1, e_zne2, e_feq1, e_fne1, e_feq2, e_fne2, e_seq, e_sne, e_ta1, e_ta2, Nat.zero_add, Nat.add_zero, Bool.not_true, Bool.not_false]
      rw [if_neg (fun q => h1 q.1)] at es
      exact next _ (by omega)
  · have hlt' : ¬ (j : Int) < (L.length : Int) := by omega
    simp only [hlt', decide_false, e_fd, e_nck, e_pkt, e_pkf, e_gdtt, e_gdtf, e_gdft, e_gdff, e_ift, e_iff, e_not, e_ln, e_lnT, e_cp, e_cvi, e_ex20, e_ex21, e_ex30, e_ex31, e_ex32, e_add, e_sub, e_mul, e_quo, e_rem, e_and, e_or, e_xor, e_shl, e_shr, e_eql, e_neq, e_lss, e_leq, e_gtr, e_geq, e_beq, e_bne, e_peq1, e_peq2, e_pne1, e_pne2, e_zeq1, e_zeq2, e_zne1, e_zne2, e_feq1, e_fne1, e_feq2, e_fne2, e_seq, e_sne, e_ta1, e_ta2, Nat.zero_add, Nat.add_zero, Bool.not_true, Bool.not_false]
    have e : ins (L.take j) a (dw a) s = ins L a (dw a) s := by rw [List.take_of_length_le (by omega)]
    rw [e]
    exact hK w hw

/-- the slots of one attraction -/
theorem dwl_slots {a vb : Nat} {at4 : Value} (h0 : St W w0 d tb now ts L) (hp : ParkAt w0 cb ab) (hsl : Sl pc 3 w0 72 ob pv L) (hbn : Bnd L) (hL : L.length ≤ 65536) (hrv : Row w0 vb 59 (pa a).cells) (ha : a < 4) (hw : Kp (fun _ => False) w0 w)
    (hwas : 0 ≤ was ∧ was ≤ 90)
    (hK : ∀ w', Kp (fun _ => False) w0 w' → s8_p5 K B1 B2 pv (ptr d) (ptr cb) (I was) v ln ii at4 (I 4) (I a) w') :
    s8_p14 K B1 B2 pv (ptr d) (ptr cb) (I was) (I a) (ptr vb) (I now) v ln ii at4 (I 4) (I a) w := by
  have hdw : (pa a).dwell = dw a := rfl
  have hb := pa_bd a
  have n0 := h0.good.inv.n0
  have n1 := h0.good.inv.n1
  refine ⟨fun m l w => ∃ s : Int, now ≤ s ∧ s ≤ now + 6 ∧ m = (now + 6 - s).toNat ∧ Kp (fun _ => False) w0 w ∧
      l = [pv, ptr d, ptr cb, I was, I a, ptr vb, I s, v, ln, ii, at4, I 4, I a],
    6, ⟨now, by omega, by omega, by omega, hw, rfl⟩, ?_⟩
  rintro m l w ⟨s, s0, s1, hm, hw, rfl⟩
  rw [s8_p14_Fe]
  unfold s8_p13 s8_p13_d
  have hd := h0.kp (hw.trans kp_drw)
  have hpd := hp.kp' (hw.trans kp_drw)
  unfold ptr
  simp only [e_fd, e_nck, e_pkt, e_pkf, e_gdtt, e_gdtf, e_gdft, e_gdff, e_ift, e_iff, e_not, e_ln, e_lnT, e_cp, e_cvi, e_ex20, e_ex21, e_ex30, e_ex31, e_ex32, e_add, e_sub, e_mul, e_quo, e_rem, e_and, e_or, e_xor, e_shl, e_shr, e_eql, e_neq, e_lss, e_leq, e_gtr, e_geq, e_beq, e_bne, e_peq1, e_peq2, e_pne1, e_pne2, e_zeq1, e_zeq2, e_zne1, e_zne2, e_feq1, e_fne1, e_feq2, e_fne2, e_seq, e_sne, e_ta1, e_ta2, Nat.zero_add, Nat.add_zero, Bool.not_true, Bool.not_false]
  refine ld1_r hpd.top rfl ?_
  refine now_ok hd.tabs.top ?_
  refine ⟨Below.refl _ _, ?_⟩
  simp only [e_fd, e_nck, e_pkt, e_pkf, e_gdtt, e_gdtf, e_gdft, e_gdff, e_ift, e_iff, e_not, e_ln, e_lnT, e_cp, e_cvi, e_ex20, e_ex21, e_ex30, e_ex31, e_ex32, e_add, e_sub, e_mul, e_quo, e_rem, e_and, e_or, e_xor, e_shl, e_shr, e_eql, e_neq, e_lss, e_leq, e_gtr, e_geq, e_beq, e_bne, e_peq1, e_peq2, e_pne1, e_pne2, e_zeq1, e_zeq2, e_zne1, e_zne2, e_feq1, e_fne1, e_feq2, e_fne2, e_seq, e_sne, e_ta1, e_ta2, Nat.zero_add, Nat.add_zero, Bool.not_true, Bool.not_false]
  rw [wrap64_id (by omega) (by omega)]
  refine ⟨Below.refl _ _, ?_⟩
  unfold s8_p12
  by_cases hlt : s < now + 6
  · simp only [hlt, decide_true, e_fd, e_nck, e_pkt, e_pkf, e_gdtt, e_gdtf, e_gdft, e_gdff, e_ift, e_iff, e_not, e_ln, e_lnT, e_cp, e_cvi, e_ex20, e_ex21, e_ex30, e_ex31, e_ex32, e_add, e_sub, e_mul, e_quo, e_rem, e_and, e_or, e_xor, e_shl, e_shr, e_eql, e_neq, e_lss, e_leq, e_gtr, e_geq, e_beq, e_bne, e_peq1, e_peq2, e_pne1, e_pne2, e_zeq1, e_zeq2, e_zne1, e_zne2, e_feq1, e_fne1, e_feq2, e_fne2, e_seq, e_sne, e_ta1, e_ta2, Nat.zero_add, Nat.add_zero, Bool.not_true, Bool.not_false]
    unfold s8_p11
    simp only [e_fd, e_nck, e_pkt, e_pkf, e_gdtt, e_gdtf, e_gdft, e_gdff, e_ift, e_iff, e_not, e_ln, e_lnT, e_cp, e_cvi, e_ex20, e_ex21, e_ex30, e_ex31, e_ex32, e_add, e_sub, e_mul, e_quo, e_rem, e_and, e_or, e_xor, e_shl, e_shr, e_eql, e_neq, e_lss, e_leq, e_gtr, e_geq, e_beq, e_bne, e_peq1, e_peq2, e_pne1, e_pne2, e_zeq1, e_zeq2, e_zne1, e_zne2, e_feq1, e_fne1, e_feq2, e_fne2, e_seq, e_sne, e_ta1, e_ta2, Nat.zero_add, Nat.add_zero, Bool.not_true, Bool.not_false]
    refine ld1_r hpd.top rfl ?_
    simp only [e_fd, e_nck, e_pkt, e_pkf, e_gdtt, e_gdtf, e_gdft, e_gdff, e_ift, e_iff, e_not, e_ln, e_lnT, e_cp, e_cvi, e_ex20, e_ex21, e_ex30, e_ex31, e_ex32, e_add, e_sub, e_mul, e_quo, e_rem, e_and, e_or, e_xor, e_shl, e_shr, e_eql, e_neq, e_lss, e_leq, e_gtr, e_geq, e_beq, e_bne, e_peq1, e_peq2, e_pne1, e_pne2, e_zeq1, e_zeq2, e_zne1, e_zne2, e_feq1, e_fne1, e_feq2, e_fne2, e_seq, e_sne, e_ta1, e_ta2, Nat.zero_add, Nat.add_zero, Bool.not_true, Bool.not_false]
    rw [wrap64_id (by omega) (by omega)]
    have next : ∀ w', Kp (fun _ => False) w0 w' → s8_p6 K B1 B2 (fun l' w' => ∃ m', m' < m ∧ ∃ s : Int, now ≤ s ∧ s ≤ now + 6 ∧ m' = (now + 6 - s).toNat ∧ Kp (fun _ => False) w0 w' ∧
        l' = [pv, ptr d, ptr cb, I was, I a, ptr vb, I s, v, ln, ii, at4, I 4, I a]) pv (ptr d) (ptr cb) (I was) (I a) (ptr vb) (I s) v ln ii at4 (I 4) (I a) w' := by
      intro w' hw'
      unfold s8_p6
      simp only [e_fd, e_nck, e_pkt, e_pkf, e_gdtt, e_gdtf, e_gdft, e_gdff, e_ift, e_iff, e_not, e_ln, e_lnT, e_cp, e_cvi, e_ex20, e_ex21, e_ex30, e_ex31, e_ex32, e_add, e_sub, e_mul, e_quo, e_rem, e_and, e_or, e_xor, e_shl, e_shr, e_eql, e_neq, e_lss, e_leq, e_gtr, e_geq, e_beq, e_bne, e_peq1, e_peq2, e_pne1, e_pne2, e_zeq1, e_zeq2, e_zne1, e_zne2, e_feq1, e_fne1, e_feq2, e_fne2, e_seq, e_sne, e_ta1, e_ta2, Nat.zero_add, Nat.add_zero, Bool.not_true, Bool.not_false]
      rw [wrap64_id (by omega) (by omega)]
      exact ⟨(now + 6 - (s + 1)).toNat, by omega, s + 1, by omega, by omega, rfl, hw', rfl⟩
    by_cases hop : s < was + 6
    · simp only [hop, decide_true, e_fd, e_nck, e_pkt, e_pkf, e_gdtt, e_gdtf, e_gdft, e_gdff, e_ift, e_iff, e_not, e_ln, e_lnT, e_cp, e_cvi, e_ex20, e_ex21, e_ex30, e_ex31, e_ex32, e_add, e_sub, e_mul, e_quo, e_rem, e_and, e_or, e_xor, e_shl, e_shr, e_eql, e_neq, e_lss, e_leq, e_gtr, e_geq, e_beq, e_bne, e_peq1, e_peq2, e_pne1, e_pne2, e_zeq1, e_zeq2, e_zne1, e_zne2, e_feq1, e_fne1, e_feq2, e_fne2, e_seq, e_sne, e_ta1, e_ta2, Nat.zero_add, Nat.add_zero, Bool.not_true, Bool.not_false]
      exact next _ (hw.trans kp_drw)
    · simp only [hop, decide_false, e_fd, e_nck, e_pkt, e_pkf, e_gdtt, e_gdtf, e_gdft, e_gdff, e_ift, e_iff, e_not, e_ln, e_lnT, e_cp, e_cvi, e_ex20, e_ex21, e_ex30, e_ex31, e_ex32, e_add, e_sub, e_mul, e_quo, e_rem, e_and, e_or, e_xor, e_shl, e_shr, e_eql, e_neq, e_lss, e_leq, e_gtr, e_geq, e_beq, e_bne, e_peq1, e_peq2, e_pne1, e_pne2, e_zeq1, e_zeq2, e_zne1, e_zne2, e_feq1, e_fne1, e_feq2, e_fne2, e_seq, e_sne, e_ta1, e_ta2, Nat.zero_add, Nat.add_zero, Bool.not_true, Bool.not_false]
      refine (hsl.kp' (hw.trans kp_drw)).ln ?_
      refine dwl_sum h0 hsl hbn hL hrv ha (hw.trans kp_drw) fun w2 hw2 => ?_
      unfold s8_p7
      have h2 := h0.kp hw2
      have hi := h0.good.inv.ii a s
      have hal : a < ts.length := by rw [h0.good.len]; omega
      have hr := h0.good.ring a hal
      have hc0 : chkP now a s 0 1 2 = 0 := by
        unfold chkP
        have et : ((a : Int)).toNat = a := by omega
        rw [et, if_neg (by omega), if_neg (by omega), if_neg (by omega), if_neg]
        simp; omega
      refine Occupancy_ok h2.sys fun w3 e3 he3 hb3 => ?_
      rw [h0.good.chk, hc0] at he3
      rw [h0.good.chk, if_pos hc0, tabOf_eq (by simpa using hal)]
      have et : ((a : Int)).toNat = a := by omega
      simp only [et]
      rw [hr.occ s (by omega) (by omega)]
      simp only [e_fd, e_nck, e_pkt, e_pkf, e_gdtt, e_gdtf, e_gdft, e_gdff, e_ift, e_iff, e_not, e_ln, e_lnT, e_cp, e_cvi, e_ex20, e_ex21, e_ex30, e_ex31, e_ex32, e_add, e_sub, e_mul, e_quo, e_rem, e_and, e_or, e_xor, e_shl, e_shr, e_eql, e_neq, e_lss, e_leq, e_gtr, e_geq, e_beq, e_bne, e_peq1, e_peq2, e_pne1, e_pne2, e_zeq1, e_zeq2, e_zne1, e_zne2, e_feq1, e_fne1, e_feq2, e_fne2, e_seq, e_sne, e_ta1, e_ta2, Nat.zero_add, Nat.add_zero, Bool.not_true, Bool.not_false]
      refine errV_neq he3 ?_
      have e00 : ((0 : Int) != 0) = false := rfl
      have eii : (ins L a (dw a) s != ins L a (dw a) s) = false := by simp
      simp only [e00, eii, e_fd, e_nck, e_pkt, e_pkf, e_gdtt, e_gdtf, e_gdft, e_gdff, e_ift, e_iff, e_not, e_ln, e_lnT, e_cp, e_cvi, e_ex20, e_ex21, e_ex30, e_ex31, e_ex32, e_add, e_sub, e_mul, e_quo, e_rem, e_and, e_or, e_xor, e_shl, e_shr, e_eql, e_neq, e_lss, e_leq, e_gtr, e_geq, e_beq, e_bne, e_peq1, e_peq2, e_pne1, e_pne2, e_zeq1, e_zeq2, e_zne1, e_zne2, e_feq1, e_fne1, e_feq2, e_fne2, e_seq, e_sne, e_ta1, e_ta2, Nat.zero_add, Nat.add_zero, Bool.not_true, Bool.not_false]
      have hrv3 := (hw2.trans hb3).row' hrv
      unfold ptr
      simp only [e_fd, e_nck, e_pkt, e_pkf, e_gdtt, e_gdtf, e_gdft, e_gdff, e_ift, e_iff, e_not, e_ln, e_lnT, e_cp, e_cvi, e_ex20, e_ex21, e_ex30, e_ex31, e_ex32, e_add, e_sub, e_mul, e_quo, e_rem, e_and, e_or, e_xor, e_shl, e_shr, e_eql, e_neq, e_lss, e_leq, e_gtr, e_geq, e_beq, e_bne, e_peq1, e_peq2, e_pne1, e_pne2, e_zeq1, e_zeq2, e_zne1, e_zne2, e_feq1, e_fne1, e_feq2, e_fne2, e_seq, e_sne, e_ta1, e_ta2, Nat.zero_add, Nat.add_zero, Bool.not_true, Bool.not_false]
      refine ld1_r hrv3 rfl ?_
      simp only [e_fd, e_nck, e_pkt, e_pkf, e_gdtt, e_gdtf, e_gdft, e_gdff, e_ift, e_iff, e_not, e_ln, e_lnT, e_cp, e_cvi, e_ex20, e_ex21, e_ex30, e_ex31, e_ex32, e_add, e_sub, e_mul, e_quo, e_rem, e_and, e_or, e_xor, e_shl, e_shr, e_eql, e_neq, e_lss, e_leq, e_gtr, e_geq, e_beq, e_bne, e_peq1, e_peq2, e_pne1, e_pne2, e_zeq1, e_zeq2, e_zne1, e_zne2, e_feq1, e_fne1, e_feq2, e_fne2, e_seq, e_sne, e_ta1, e_ta2, Nat.zero_add, Nat.add_zero, Bool.not_true, Bool.not_false]
      rw [wrap64_id (n := (pa a).cap - ins L a (dw a) s) (by omega) (by omega), wrap64_id (by omega) (by omega)]
      refine Fits_ok (h2.kp hb3).sys fun w4 e4 he4 hb4 => ?_
      rw [h0.good.fitsC] at he4
      have e5 : mFits now L a s 0 ((pa a).cap - ins L a (dw a) s + 1) = 5 := by
        have hc1 : chkP now a s 0 ((pa a).cap - ins L a (dw a) s + 1) 0 = 0 := by
          unfold chkP
          rw [if_neg (by omega), if_neg (by omega), if_neg (by omega), if_neg]
          simp; omega
        unfold mFits
        rw [if_pos hc1, et]
        unfold fitM
        rw [if_neg]
        intro q
        have := all_range.1 q s (by omega) (by omega)
        omega
      rw [e5] at he4
      refine codeOf_ok he4 ?_
      simp only [e_fd, e_nck, e_pkt, e_pkf, e_gdtt, e_gdtf, e_gdft, e_gdff, e_ift, e_iff, e_not, e_ln, e_lnT, e_cp, e_cvi, e_ex20, e_ex21, e_ex30, e_ex31, e_ex32, e_add, e_sub, e_mul, e_quo, e_rem, e_and, e_or, e_xor, e_shl, e_shr, e_eql, e_neq, e_lss, e_leq, e_gtr, e_geq, e_beq, e_bne, e_peq1, e_peq2, e_pne1, e_pne2, e_zeq1, e_zeq2, e_zne1, e_zne2, e_feq1, e_fne1, e_feq2, e_fne2, e_seq, e_sne, e_ta1, e_ta2, Nat.zero_add, Nat.add_zero, Bool.not_true, Bool.not_false, show ((5 : Int) != 5) = false from rfl]
      exact next w4 ((hw2.trans hb3).trans hb4)
  · simp only [hlt, decide_false, e_fd, e_nck, e_pkt, e_pkf, e_gdtt, e_gdtf, e_gdft, e_gdff, e_ift, e_iff, e_not, e_ln, e_lnT, e_cp, e_cvi, e_ex20, e_ex21, e_ex30, e_ex31, e_ex32, e_add, e_sub, e_mul, e_quo, e_rem, e_and, e_or, e_xor, e_shl, e_shr, e_eql, e_neq, e_lss, e_leq, e_gtr, e_geq, e_beq, e_bne, e_peq1, e_peq2, e_pne1, e_pne2, e_zeq1, e_zeq2, e_zne1, e_zne2, e_feq1, e_fne1, e_feq2, e_fne2, e_seq, e_sne, e_ta1, e_ta2, Nat.zero_add, Nat.add_zero, Bool.not_true, Bool.not_false]
    exact hK _ (hw.trans kp_drw)

/-- the attractions -/
theorem dwl_atts (h0 : St W w0 d tb now ts L) (hp : ParkAt w0 cb ab) (hsl : Sl pc 3 w0 72 ob pv L) (hbn : Bnd L) (hL : L.length ≤ 65536) (hwas : 0 ≤ was ∧ was ≤ 90) (hw : Kp (fun _ => False) w0 w)
    (hK : ∀ w', Kp (fun _ => False) w0 w' → s8_p2 K B1 pv (ptr d) (ptr cb) v ln ii w') :
    s8_p17 K B1 pv (ptr d) (ptr cb) (I was) v ln ii (.slice (some ⟨ab, 0, none⟩) 4 4) (I 4) (I 0) w := by
  refine ⟨fun m l w => ∃ a : Nat, a ≤ 4 ∧ m = 4 - a ∧ Kp (fun _ => False) w0 w ∧
      l = [pv, ptr d, ptr cb, I was, v, ln, ii, .slice (some ⟨ab, 0, none⟩) 4 4, I 4, I a],
    4, ⟨0, by omega, by omega, hw, rfl⟩, ?_⟩
  rintro m l w ⟨a, ha, hm, hw, rfl⟩
  rw [s8_p17_Fe]
  unfold s8_p16
  simp only [e_fd, e_nck, e_pkt, e_pkf, e_gdtt, e_gdtf, e_gdft, e_gdff, e_ift, e_iff, e_not, e_ln, e_lnT, e_cp, e_cvi, e_ex20, e_ex21, e_ex30, e_ex31, e_ex32, e_add, e_sub, e_mul, e_quo, e_rem, e_and, e_or, e_xor, e_shl, e_shr, e_eql, e_neq, e_lss, e_leq, e_gtr, e_geq, e_beq, e_bne, e_peq1, e_peq2, e_pne1, e_pne2, e_zeq1, e_zeq2, e_zne1, e_zne2, e_feq1, e_fne1, e_feq2, e_fne2, e_seq, e_sne, e_ta1, e_ta2, Nat.zero_add, Nat.add_zero, Bool.not_true, Bool.not_false]
  by_cases hlt : a < 4
  · have hlt' : (a : Int) < 4 := by omega
    simp only [hlt', decide_true, e_fd, e_nck, e_pkt, e_pkf, e_gdtt, e_gdtf, e_gdft, e_gdff, e_ift, e_iff, e_not, e_ln, e_lnT, e_cp, e_cvi, e_ex20, e_ex21, e_ex30, e_ex31, e_ex32, e_add, e_sub, e_mul, e_quo, e_rem, e_and, e_or, e_xor, e_shl, e_shr, e_eql, e_neq, e_lss, e_leq, e_gtr, e_geq, e_beq, e_bne, e_peq1, e_peq2, e_pne1, e_pne2, e_zeq1, e_zeq2, e_zne1, e_zne2, e_feq1, e_fne1, e_feq2, e_fne2, e_seq, e_sne, e_ta1, e_ta2, Nat.zero_add, Nat.add_zero, Bool.not_true, Bool.not_false]
    unfold s8_p15
    have hpw := hp.kp' hw
    refine ixs_r hlt ?_
    have hal : a < parkA.length := hlt
    refine ldn_r hpw.atts (rows_le Att.cells_length parkA a hal) ?_
    rw [rows_slice Att.cells_length parkA a hal, parkA_at hal]
    refine nw_r fun w1 r1 hb1 hz1 => ?_
    refine stn_r r1 rfl (Nat.le_of_ble_eq_true rfl) rfl fun w2 r2 hb2 hz2 => ?_
    replace r2 : Row w2 w.heap.size 59 (pa a).cells := r2
    have k2 : Kp (fun _ => False) w0 w2 := hw.trans (hb1.then hb2 (by intro k hk (e : k = _); omega))
    have h2 := h0.kp k2
    refine now_ok h2.tabs.top ?_
    refine dwl_slots h2 (hp.kp' k2) (hsl.kp' k2) hbn hL r2 hlt (Kp.refl _ _) hwas fun w3 hw3 => ?_
    unfold s8_p5
    simp only [e_fd, e_nck, e_pkt, e_pkf, e_gdtt, e_gdtf, e_gdft, e_gdff, e_ift, e_iff, e_not, e_ln, e_lnT, e_cp, e_cvi, e_ex20, e_ex21, e_ex30, e_ex31, e_ex32, e_add, e_sub, e_mul, e_quo, e_rem, e_and, e_or, e_xor, e_shl, e_shr, e_eql, e_neq, e_lss, e_leq, e_gtr, e_geq, e_beq, e_bne, e_peq1, e_peq2, e_pne1, e_pne2, e_zeq1, e_zeq2, e_zne1, e_zne2, e_feq1, e_fne1, e_feq2, e_fne2, e_seq, e_sne, e_ta1, e_ta2, Nat.zero_add, Nat.add_zero, Bool.not_true, Bool.not_false]
    rw [wrap64_id (by omega) (by omega)]
    exact ⟨4 - (a + 1), by omega, a + 1, by omega, rfl, k2.trans hw3, by simp⟩
  · have hlt' : ¬ (a : Int) < 4 := by omega
    simp only [hlt', decide_false, e_fd, e_nck, e_pkt, e_pkf, e_gdtt, e_gdtf, e_gdft, e_gdff, e_ift, e_iff, e_not, e_ln, e_lnT, e_cp, e_cvi, e_ex20, e_ex21, e_ex30, e_ex31, e_ex32, e_add, e_sub, e_mul, e_quo, e_rem, e_and, e_or, e_xor, e_shl, e_shr, e_eql, e_neq, e_lss, e_leq, e_gtr, e_geq, e_beq, e_bne, e_peq1, e_peq2, e_pne1, e_pne2, e_zeq1, e_zeq2, e_zne1, e_zne2, e_feq1, e_fne1, e_feq2, e_fne2, e_seq, e_sne, e_ta1, e_ta2, Nat.zero_add, Nat.add_zero, Bool.not_true, Bool.not_false]
    exact hK w hw
end
end Go.Proofs.Qxb6500897a
