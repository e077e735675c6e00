import Derived.Test.Qxb6500897aP38
namespace Go.Proofs.Qxb6500897a
open Go.Sh Go.RowKit
set_option linter.unusedVariables false
set_option linter.unusedSimpArgs false

/-! ### StaysWithinBounds -/
def Ctr.adm (c : Ctr) : Nat → Int
  | 0 => c.a0
  | 1 => c.a1
  | _ => c.a2
structure CtrOk (a : Nat) (c : Ctr) : Prop where
  o0 : 0 ≤ c.occ
  o1 : c.occ ≤ (pa a).cap
  ad : ∀ k, k < 3 → 0 ≤ c.adm k ∧ c.adm k ≤ (pa a).q k
theorem ctrOf_ok {now : Int} {L : List Ent} (h : Inv now L) (a : Nat) (v : Int) : CtrOk a (ctrOf L a v) := by
  refine ⟨(h.ii a v).1, (h.ii a v).2, fun k hk => ?_⟩
  match k, hk with
  | 0, _ => exact h.en a v 0 (by omega)
  | 1, _ => exact h.en a v 1 (by omega)
  | 2, _ => exact h.en a v 2 (by omega)

set_option maxRecDepth 100000 in
theorem ivK57 : ivK Try.prog 57 = some 3 := by kernel_rfl

section
variable {W w0 w : World} {d tb cb ab : Nat} {K : Value → World → Prop} {B1 B2 B3 : List Value → World → Prop} {t3 t4 t7 t19 t20 t21 t39 t40 t41 t50 t51 t52 : Value}

theorem bnd_cls {a : Nat} {c : Ctr} {vb : Nat} (hc : CtrOk a c) (hv : Row w vb 59 (pa a).cells) (hK : s9_p4 K B1 B2 B3 t3 t4 t7 (ptr vb) t19 t20 t21 t39 t40 t41 t50 t51 t52 w) :
    s9_p6 K B1 B2 B3 t3 t4 t7 (ptr vb) t19 t20 t21 t39 t40 t41 t50 t51 t52 (.agg #[I c.a0, I c.a1, I c.a2]) (I 0) w := by
  have hb := pa_bd a
  refine ⟨fun m l w' => ∃ k : Nat, k ≤ 3 ∧ m = 3 - k ∧ w' = w ∧ l = [t3, t4, t7, ptr vb, t19, t20, t21, t39, t40, t41, t50, t51, t52, .agg #[I c.a0, I c.a1, I c.a2], I k],
    3, ⟨0, by omega, by omega, rfl, rfl⟩, ?_⟩
  rintro m l w' ⟨k, hk, hm, rfl, rfl⟩
  rw [s9_p6_Fe]
  unfold s9_p5
  simp only [e_fd, e_nck, e_pkt, e_pkf, e_gdtt, e_gdtf, e_gdft, e_gdff, e_ift, e_iff, e_not, e_ln, e_lnT, e_cp, e_cvi, e_ex20, e_ex21, e_ex30, e_ex31, e_ex32, e_add, e_sub, e_mul, e_quo, e_rem, e_and, e_or, e_xor, e_shl, e_shr, e_eql, e_neq, e_lss, e_leq, e_gtr, e_geq, e_beq, e_bne, e_peq1, e_peq2, e_pne1, e_pne2, e_zeq1, e_zeq2, e_zne1, e_zne2, e_feq1, e_fne1, e_feq2, e_fne2, e_seq, e_sne, e_ta1, e_ta2, Nat.zero_add, Nat.add_zero, Bool.not_true, Bool.not_false]
  by_cases hlt : k < 3
  · have hlt' : (k : Int) < 3 := by omega
    simp only [hlt', decide_true, e_fd, e_nck, e_pkt, e_pkf, e_gdtt, e_gdtf, e_gdft, e_gdff, e_ift, e_iff, e_not, e_ln, e_lnT, e_cp, e_cvi, e_ex20, e_ex21, e_ex30, e_ex31, e_ex32, e_add, e_sub, e_mul, e_quo, e_rem, e_and, e_or, e_xor, e_shl, e_shr, e_eql, e_neq, e_lss, e_leq, e_gtr, e_geq, e_beq, e_bne, e_peq1, e_peq2, e_pne1, e_pne2, e_zeq1, e_zeq2, e_zne1, e_zne2, e_feq1, e_fne1, e_feq2, e_fne2, e_seq, e_sne, e_ta1, e_ta2, Nat.zero_add, Nat.add_zero, Bool.not_true, Bool.not_false]
    have hck := hc.ad k hlt
    have hvk : (#[I c.a0, I c.a1, I c.a2] : Array Value)[((k : Int)).toNat]? = some (I (c.adm k)) := by
      match k, hlt with
      | 0, _ => rfl
      | 1, _ => rfl
      | 2, _ => rfl
    refine iv_r ivK57 (by omega) (by omega) hvk ?_
    have hneg : ¬ c.adm k < 0 := by omega
    unfold ptr
    simp only [hneg, decide_false, e_fd, e_nck, e_pkt, e_pkf, e_gdtt, e_gdtf, e_gdft, e_gdff, e_ift, e_iff, e_not, e_ln, e_lnT, e_cp, e_cvi, e_ex20, e_ex21, e_ex30, e_ex31, e_ex32, e_add, e_sub, e_mul, e_quo, e_rem, e_and, e_or, e_xor, e_shl, e_shr, e_eql, e_neq, e_lss, e_leq, e_gtr, e_geq, e_beq, e_bne, e_peq1, e_peq2, e_pne1, e_pne2, e_zeq1, e_zeq2, e_zne1, e_zne2, e_feq1, e_fne1, e_feq2, e_fne2, e_seq, e_sne, e_ta1, e_ta2, Nat.zero_add, Nat.add_zero, Bool.not_true, Bool.not_false]
    refine ⟨⟨by omega, by omega⟩, ?_⟩
    have ek : ((k : Int)).toNat = k := by omega
    simp only [ek, add_mk, Nat.mul_one, Nat.zero_add]
    have hq : (pa a).cells[2 + k]? = some (I ((pa a).q k)) := by
      match k, hlt with
      | 0, _ => rfl
      | 1, _ => rfl
      | 2, _ => rfl
    refine ld1_r hv hq ?_
    have hgt : ¬ (pa a).q k < c.adm k := by omega
    simp only [hgt, decide_false, e_fd, e_nck, e_pkt, e_pkf, e_gdtt, e_gdtf, e_gdft, e_gdff, e_ift, e_iff, e_not, e_ln, e_lnT, e_cp, e_cvi, e_ex20, e_ex21, e_ex30, e_ex31, e_ex32, e_add, e_sub, e_mul, e_quo, e_rem, e_and, e_or, e_xor, e_shl, e_shr, e_eql, e_neq, e_lss, e_leq, e_gtr, e_geq, e_beq, e_bne, e_peq1, e_peq2, e_pne1, e_pne2, e_zeq1, e_zeq2, e_zne1, e_zne2, e_feq1, e_fne1, e_feq2, e_fne2, e_seq, e_sne, e_ta1, e_ta2, Nat.zero_add, Nat.add_zero, Bool.not_true, Bool.not_false]
    rw [wrap64_id (by omega) (by omega)]
    exact ⟨3 - (k + 1), by omega, k + 1, by omega, rfl, trivial, by simp [ptr]⟩
  · have hlt' : ¬ (k : Int) < 3 := by omega
    simp only [hlt', decide_false, e_fd, e_nck, e_pkt, e_pkf, e_gdtt, e_gdtf, e_gdft, e_gdff, e_ift, e_iff, e_not, e_ln, e_lnT, e_cp, e_cvi, e_ex20, e_ex21, e_ex30, e_ex31, e_ex32, e_add, e_sub, e_mul, e_quo, e_rem, e_and, e_or, e_xor, e_shl, e_shr, e_eql, e_neq, e_lss, e_leq, e_gtr, e_geq, e_beq, e_bne, e_peq1, e_peq2, e_pne1, e_pne2, e_zeq1, e_zeq2, e_zne1, e_zne2, e_feq1, e_fne1, e_feq2, e_fne2, e_seq, e_sne, e_ta1, e_ta2, Nat.zero_add, Nat.add_zero, Bool.not_true, Bool.not_false]
    exact hK

theorem bnd_row {a vb : Nat} {ob : Option Nat} {rv : Value} {cs : List Ctr} (hs : Sl Ctr.cells 4 w0 61 ob rv cs) (hc : ∀ c ∈ cs, CtrOk a c) (hcl : cs.length ≤ 1000) (hv : Row w0 vb 59 (pa a).cells) (hw : Kp (fun _ => False) w0 w)
    (hK : ∀ w', Kp (fun _ => False) w0 w' → s9_p3 K B1 B2 t3 t4 t7 t19 t20 t21 t39 t40 t41 w') :
    s9_p9 K B1 B2 t3 t4 t7 (ptr vb) t19 t20 t21 t39 t40 t41 rv (I cs.length) (I 0) w := by
  refine ⟨fun m l w => ∃ i : Nat, i ≤ cs.length ∧ m = cs.length - i ∧ Kp (fun _ => False) w0 w ∧ l = [t3, t4, t7, ptr vb, t19, t20, t21, t39, t40, t41, rv, I cs.length, I i],
    cs.length, ⟨0, by omega, by omega, hw, rfl⟩, ?_⟩
  rintro m l w ⟨i, hi, hm, hw, rfl⟩
  rw [s9_p9_Fe]
  unfold s9_p8
  simp only [e_fd, e_nck, e_pkt, e_pkf, e_gdtt, e_gdtf, e_gdft, e_gdff, e_ift, e_iff, e_not, e_ln, e_lnT, e_cp, e_cvi, e_ex20, e_ex21, e_ex30, e_ex31, e_ex32, e_add, e_sub, e_mul, e_quo, e_rem, e_and, e_or, e_xor, e_shl, e_shr, e_eql, e_neq, e_lss, e_leq, e_gtr, e_geq, e_beq, e_bne, e_peq1, e_peq2, e_pne1, e_pne2, e_zeq1, e_zeq2, e_zne1, e_zne2, e_feq1, e_fne1, e_feq2, e_fne2, e_seq, e_sne, e_ta1, e_ta2, Nat.zero_add, Nat.add_zero, Bool.not_true, Bool.not_false]
  by_cases hlt : i < cs.length
  · have hlt' : (i : Int) < (cs.length : Int) := by omega
    simp only [hlt', decide_true, e_fd, e_nck, e_pkt, e_pkf, e_gdtt, e_gdtf, e_gdft, e_gdff, e_ift, e_iff, e_not, e_ln, e_lnT, e_cp, e_cvi, e_ex20, e_ex21, e_ex30, e_ex31, e_ex32, e_add, e_sub, e_mul, e_quo, e_rem, e_and, e_or, e_xor, e_shl, e_shr, e_eql, e_neq, e_lss, e_leq, e_gtr, e_geq, e_beq, e_bne, e_peq1, e_peq2, e_pne1, e_pne2, e_zeq1, e_zeq2, e_zne1, e_zne2, e_feq1, e_fne1, e_feq2, e_fne2, e_seq, e_sne, e_ta1, e_ta2, Nat.zero_add, Nat.add_zero, Bool.not_true, Bool.not_false]
    unfold s9_p7
    refine (hs.kp' hw).read Ctr.cells_length hlt ?_
    refine nw_r fun w1 r1 hb1 hz1 => ?_
    refine stn_r r1 rfl (Nat.le_of_ble_eq_true rfl) rfl fun w2 r2 hb2 hz2 => ?_
    replace r2 : Row w2 w.heap.size 61 cs[i].cells := r2
    have k2 : Kp (fun _ => False) w0 w2 := hw.trans (hb1.then hb2 (by intro k hk (e : k = _); omega))
    have hok := hc _ (List.getElem_mem hlt)
    have o0 := hok.o0
    have o1 := hok.o1
    have hv2 := k2.row' hv
    unfold ptr
    simp only [e_fd, e_nck, e_pkt, e_pkf, e_gdtt, e_gdtf, e_gdft, e_gdff, e_ift, e_iff, e_not, e_ln, e_lnT, e_cp, e_cvi, e_ex20, e_ex21, e_ex30, e_ex31, e_ex32, e_add, e_sub, e_mul, e_quo, e_rem, e_and, e_or, e_xor, e_shl, e_shr, e_eql, e_neq, e_lss, e_leq, e_gtr, e_geq, e_beq, e_bne, e_peq1, e_peq2, e_pne1, e_pne2, e_zeq1, e_zeq2, e_zne1, e_zne2, e_feq1, e_fne1, e_feq2, e_fne2, e_seq, e_sne, e_ta1, e_ta2, Nat.zero_add, Nat.add_zero, Bool.not_true, Bool.not_false]
    refine ld1_r r2 rfl ?_
    have hneg : ¬ cs[i].occ < 0 := by omega
    simp only [hneg, decide_false, e_fd, e_nck, e_pkt, e_pkf, e_gdtt, e_gdtf, e_gdft, e_gdff, e_ift, e_iff, e_not, e_ln, e_lnT, e_cp, e_cvi, e_ex20, e_ex21, e_ex30, e_ex31, e_ex32, e_add, e_sub, e_mul, e_quo, e_rem, e_and, e_or, e_xor, e_shl, e_shr, e_eql, e_neq, e_lss, e_leq, e_gtr, e_geq, e_beq, e_bne, e_peq1, e_peq2, e_pne1, e_pne2, e_zeq1, e_zeq2, e_zne1, e_zne2, e_feq1, e_fne1, e_feq2, e_fne2, e_seq, e_sne, e_ta1, e_ta2, Nat.zero_add, Nat.add_zero, Bool.not_true, Bool.not_false]
    refine ld1_r r2 rfl ?_
    refine ld1_r hv2 rfl ?_
    have hgt : ¬ (pa a).cap < cs[i].occ := by omega
    simp only [hgt, decide_false, e_fd, e_nck, e_pkt, e_pkf, e_gdtt, e_gdtf, e_gdft, e_gdff, e_ift, e_iff, e_not, e_ln, e_lnT, e_cp, e_cvi, e_ex20, e_ex21, e_ex30, e_ex31, e_ex32, e_add, e_sub, e_mul, e_quo, e_rem, e_and, e_or, e_xor, e_shl, e_shr, e_eql, e_neq, e_lss, e_leq, e_gtr, e_geq, e_beq, e_bne, e_peq1, e_peq2, e_pne1, e_pne2, e_zeq1, e_zeq2, e_zne1, e_zne2, e_feq1, e_fne1, e_feq2, e_fne2, e_seq, e_sne, e_ta1, e_ta2, Nat.zero_add, Nat.add_zero, Bool.not_true, Bool.not_false]
    refine ldn_r r2 (Nat.le_of_ble_eq_true rfl) ?_
    refine bnd_cls hok hv2 ?_
    unfold s9_p4
    simp only [e_fd, e_nck, e_pkt, e_pkf, e_gdtt, e_gdtf, e_gdft, e_gdff, e_ift, e_iff, e_not, e_ln, e_lnT, e_cp, e_cvi, e_ex20, e_ex21, e_ex30, e_ex31, e_ex32, e_add, e_sub, e_mul, e_quo, e_rem, e_and, e_or, e_xor, e_shl, e_shr, e_eql, e_neq, e_lss, e_leq, e_gtr, e_geq, e_beq, e_bne, e_peq1, e_peq2, e_pne1, e_pne2, e_zeq1, e_zeq2, e_zne1, e_zne2, e_feq1, e_fne1, e_feq2, e_fne2, e_seq, e_sne, e_ta1, e_ta2, Nat.zero_add, Nat.add_zero, Bool.not_true, Bool.not_false]
    rw [wrap64_id (by omega) (by omega)]
    exact ⟨cs.length - (i + 1), by omega, i + 1, by omega, rfl, k2, by simp [ptr]⟩
  · have hlt' : ¬ (i : Int) < (cs.length : Int) := by omega
    simp only [hlt', decide_false, e_fd, e_nck, e_pkt, e_pkf, e_gdtt, e_gdtf, e_gdft, e_gdff, e_ift, e_iff, e_not, e_ln, e_lnT, e_cp, e_cvi, e_ex20, e_ex21, e_ex30, e_ex31, e_ex32, e_add, e_sub, e_mul, e_quo, e_rem, e_and, e_or, e_xor, e_shl, e_shr, e_eql, e_neq, e_lss, e_leq, e_gtr, e_geq, e_beq, e_bne, e_peq1, e_peq2, e_pne1, e_pne2, e_zeq1, e_zeq2, e_zne1, e_zne2, e_feq1, e_fne1, e_feq2, e_fne2, e_seq, e_sne, e_ta1, e_ta2, Nat.zero_add, Nat.add_zero, Bool.not_true, Bool.not_false]
    exact hK w hw

theorem bnd_atts {now : Int} {fob : Option Nat} {fv : Value} {sob : Option Nat} {sv : Value} {fs : List Int} {its : List It} {lo vwb : Nat} (hp : ParkAt w0 cb ab) (hV : VP w0 fob fv sob sv fs its lo) (rv : Row w0 vwb 43 [.bool true, I now, fv, sv])
    (hil : its.length = 4) (hc : ∀ a (h : a < its.length), its[a].cs.length ≤ 1000 ∧ ∀ c ∈ its[a].cs, CtrOk a c) (hw : Kp (fun _ => False) w0 w)
    (hK : ∀ w', Kp (fun _ => False) w0 w' → s9_p2 K B1 t3 t4 t19 t20 t21 w') :
    s9_p12 K B1 t3 t4 (ptr vwb) t19 t20 t21 (.slice (some ⟨ab, 0, none⟩) 4 4) (I 4) (I 0) w := by
  refine ⟨fun m l w => ∃ a : Nat, a ≤ 4 ∧ m = 4 - a ∧ Kp (fun _ => False) w0 w ∧ l = [t3, t4, ptr vwb, t19, t20, t21, .slice (some ⟨ab, 0, none⟩) 4 4, I 4, I a],
    4, ⟨0, by omega, by omega, hw, rfl⟩, ?_⟩
  rintro m l w ⟨a, ha, hm, hw, rfl⟩
  rw [s9_p12_Fe]
  unfold s9_p11
  simp only [e_fd, e_nck, e_pkt, e_pkf, e_gdtt, e_gdtf, e_gdft, e_gdff, e_ift, e_iff, e_not, e_ln, e_lnT, e_cp, e_cvi, e_ex20, e_ex21, e_ex30, e_ex31, e_ex32, e_add, e_sub, e_mul, e_quo, e_rem, e_and, e_or, e_xor, e_shl, e_shr, e_eql, e_neq, e_lss, e_leq, e_gtr, e_geq, e_beq, e_bne, e_peq1, e_peq2, e_pne1, e_pne2, e_zeq1, e_zeq2, e_zne1, e_zne2, e_feq1, e_fne1, e_feq2, e_fne2, e_seq, e_sne, e_ta1, e_ta2, Nat.zero_add, Nat.add_zero, Bool.not_true, Bool.not_false]
  by_cases hlt : a < 4
  · have hlt' : (a : Int) < 4 := by omega
    simp only [hlt', decide_true, e_fd, e_nck, e_pkt, e_pkf, e_gdtt, e_gdtf, e_gdft, e_gdff, e_ift, e_iff, e_not, e_ln, e_lnT, e_cp, e_cvi, e_ex20, e_ex21, e_ex30, e_ex31, e_ex32, e_add, e_sub, e_mul, e_quo, e_rem, e_and, e_or, e_xor, e_shl, e_shr, e_eql, e_neq, e_lss, e_leq, e_gtr, e_geq, e_beq, e_bne, e_peq1, e_peq2, e_pne1, e_pne2, e_zeq1, e_zeq2, e_zne1, e_zne2, e_feq1, e_fne1, e_feq2, e_fne2, e_seq, e_sne, e_ta1, e_ta2, Nat.zero_add, Nat.add_zero, Bool.not_true, Bool.not_false]
    unfold s9_p10
    have hpw := hp.kp' hw
    refine ixs_r hlt ?_
    have hal : a < parkA.length := hlt
    refine ldn_r hpw.atts (rows_le Att.cells_length parkA a hal) ?_
    rw [rows_slice Att.cells_length parkA a hal, parkA_at hal]
    refine nw_r fun w1 r1 hb1 hz1 => ?_
    refine stn_r r1 rfl (Nat.le_of_ble_eq_true rfl) rfl fun w2 r2 hb2 hz2 => ?_
    replace r2 : Row w2 w.heap.size 59 (pa a).cells := r2
    have k2 : Kp (fun _ => False) w0 w2 := hw.trans (hb1.then hb2 (by intro k hk (e : k = _); omega))
    have hV2 := hV.kp k2
    have hai : a < its.length := by omega
    unfold ptr
    simp only [e_fd, e_nck, e_pkt, e_pkf, e_gdtt, e_gdtf, e_gdft, e_gdff, e_ift, e_iff, e_not, e_ln, e_lnT, e_cp, e_cvi, e_ex20, e_ex21, e_ex30, e_ex31, e_ex32, e_add, e_sub, e_mul, e_quo, e_rem, e_and, e_or, e_xor, e_shl, e_shr, e_eql, e_neq, e_lss, e_leq, e_gtr, e_geq, e_beq, e_bne, e_peq1, e_peq2, e_pne1, e_pne2, e_zeq1, e_zeq2, e_zne1, e_zne2, e_feq1, e_fne1, e_feq2, e_fne2, e_seq, e_sne, e_ta1, e_ta2, Nat.zero_add, Nat.add_zero, Bool.not_true, Bool.not_false]
    refine ld1_r (k2.row' rv) rfl ?_
    refine ix1 (g := It.rv) (fun _ => rfl) hV2.s hai fun b l _ hr hg => ?_
    refine ld1_r hr hg ?_
    have hrow := hV2.r _ (List.getElem_mem hai)
    refine hrow.ln ?_
    refine bnd_row hrow (hc a hai).2 (hc a hai).1 r2 (Kp.refl _ _) fun w3 hk3 => ?_
    unfold s9_p3
    simp only [e_fd, e_nck, e_pkt, e_pkf, e_gdtt, e_gdtf, e_gdft, e_gdff, e_ift, e_iff, e_not, e_ln, e_lnT, e_cp, e_cvi, e_ex20, e_ex21, e_ex30, e_ex31, e_ex32, e_add, e_sub, e_mul, e_quo, e_rem, e_and, e_or, e_xor, e_shl, e_shr, e_eql, e_neq, e_lss, e_leq, e_gtr, e_geq, e_beq, e_bne, e_peq1, e_peq2, e_pne1, e_pne2, e_zeq1, e_zeq2, e_zne1, e_zne2, e_feq1, e_fne1, e_feq2, e_fne2, e_seq, e_sne, e_ta1, e_ta2, Nat.zero_add, Nat.add_zero, Bool.not_true, Bool.not_false]
    rw [wrap64_id (by omega) (by omega)]
    exact ⟨4 - (a + 1), by omega, a + 1, by omega, rfl, k2.trans hk3, by simp [ptr]⟩
  · have hlt' : ¬ (a : Int) < 4 := by omega
    simp only [hlt', decide_false, e_fd, e_nck, e_pkt, e_pkf, e_gdtt, e_gdtf, e_gdft, e_gdff, e_ift, e_iff, e_not, e_ln, e_lnT, e_cp, e_cvi, e_ex20, e_ex21, e_ex30, e_ex31, e_ex32, e_add, e_sub, e_mul, e_quo, e_rem, e_and, e_or, e_xor, e_shl, e_shr, e_eql, e_neq, e_lss, e_leq, e_gtr, e_geq, e_beq, e_bne, e_peq1, e_peq2, e_pne1, e_pne2, e_zeq1, e_zeq2, e_zne1, e_zne2, e_feq1, e_fne1, e_feq2, e_fne2, e_seq, e_sne, e_ta1, e_ta2, Nat.zero_add, Nat.add_zero, Bool.not_true, Bool.not_false]
    exact hK w hw
end

theorem its_row {now : Int} {L : List Ent} {its : List It} (h : (vwOf now L).slots = its.map (·.cs)) : its.length = 4 ∧ ∀ a (h : a < its.length), its[a].cs = rowOf now L a := by
  have hl : its.length = 4 := by have := congrArg List.length h; simp [vwOf] at this; omega
  refine ⟨hl, fun a ha => ?_⟩
  have h1 : ((vwOf now L).slots)[a]? = (its.map (·.cs))[a]? := by rw [h]
  rw [List.getElem?_map, List.getElem?_eq_getElem ha] at h1
  simp [vwOf, List.getElem?_range (show a < 4 by omega)] at h1
  exact h1.symm

section
variable {W w : World} {d tb b cb ab : Nat} {now : Int} {ts : List Tab} {L : List Ent} {o : Op} {K : Value → World → Prop} {B1 : List Value → World → Prop} {v ln ii : Value}
theorem bnd_round {ops : List Op} {i : Nat} (hs : Scr W v ops) (hlt : i < ops.length) (h0 : St W w d tb now ts L) (hp0 : ParkAt w cb ab)
    (hK : ∀ w' now' ts' L', St W w' d tb now' ts' L' → ParkAt w' cb ab → s9_p2 K B1 (ptr d) (ptr cb) v ln (I i) w') : s9_p13 K B1 (ptr d) (ptr cb) v ln (I i) w := by
  unfold s9_p13
  refine hs.take h0.bel hlt fun w' b hr hb1 hbb => ?_
  have h := h0.kp hb1
  have hp := hp0.kp' hb1
  generalize hgo : ops[i] = o at *
  refine ldn_r hr (Nat.le_of_ble_eq_true rfl) ?_
  refine play_st (o := o) h fun w1 h1 hk1 => ?_
  have hp1 : ParkAt w1 cb ab := ⟨h.tabs.notP hp.top (by decide) (by decide) (by decide) hk1, h.tabs.notP hp.atts (by decide) (by decide) (by decide) hk1⟩
  refine look_ok h1 fun w2 val hv2 hk2 => ?_
  obtain ⟨fob, fv, sob, sv, its, rfl, hV, hcs⟩ := hv2
  refine view_st hV.scal fun w3 vb rv3 hk3 hvb => ?_
  have h3 := (h1.kp hk2).kp hk3
  simp only [e_fd, e_nck, e_pkt, e_pkf, e_gdtt, e_gdtf, e_gdft, e_gdff, e_ift, e_iff, e_not, e_ln, e_lnT, e_cp, e_cvi, e_ex20, e_ex21, e_ex30, e_ex31, e_ex32, e_add, e_sub, e_mul, e_quo, e_rem, e_and, e_or, e_xor, e_shl, e_shr, e_eql, e_neq, e_lss, e_leq, e_gtr, e_geq, e_beq, e_bne, e_peq1, e_peq2, e_pne1, e_pne2, e_zeq1, e_zeq2, e_zne1, e_zne2, e_feq1, e_fne1, e_feq2, e_fne2, e_seq, e_sne, e_ta1, e_ta2, Nat.zero_add, Nat.add_zero, Bool.not_true, Bool.not_false]
  refine ld1_r rv3 rfl ?_
  simp only [e_fd, e_nck, e_pkt, e_pkf, e_gdtt, e_gdtf, e_gdft, e_gdff, e_ift, e_iff, e_not, e_ln, e_lnT, e_cp, e_cvi, e_ex20, e_ex21, e_ex30, e_ex31, e_ex32, e_add, e_sub, e_mul, e_quo, e_rem, e_and, e_or, e_xor, e_shl, e_shr, e_eql, e_neq, e_lss, e_leq, e_gtr, e_geq, e_beq, e_bne, e_peq1, e_peq2, e_pne1, e_pne2, e_zeq1, e_zeq2, e_zne1, e_zne2, e_feq1, e_fne1, e_feq2, e_fne2, e_seq, e_sne, e_ta1, e_ta2, Nat.zero_add, Nat.add_zero, Bool.not_true, Bool.not_false, Bool.not_true]
  refine Sound_ok h3 fun w4 hk4 => ?_
  simp only [e_fd, e_nck, e_pkt, e_pkf, e_gdtt, e_gdtf, e_gdft, e_gdff, e_ift, e_iff, e_not, e_ln, e_lnT, e_cp, e_cvi, e_ex20, e_ex21, e_ex30, e_ex31, e_ex32, e_add, e_sub, e_mul, e_quo, e_rem, e_and, e_or, e_xor, e_shl, e_shr, e_eql, e_neq, e_lss, e_leq, e_gtr, e_geq, e_beq, e_bne, e_peq1, e_peq2, e_pne1, e_pne2, e_zeq1, e_zeq2, e_zne1, e_zne2, e_feq1, e_fne1, e_feq2, e_fne2, e_seq, e_sne, e_ta1, e_ta2, Nat.zero_add, Nat.add_zero, Bool.not_true, Bool.not_false, Bool.not_true]
  have h4 := h3.kp hk4
  have hp4 := ((hp1.kp' hk2).kp' hk3).kp' hk4
  have hV4 := (hV.kp hk3).kp hk4
  obtain ⟨hil, hrows⟩ := its_row hcs
  unfold ptr
  simp only [e_fd, e_nck, e_pkt, e_pkf, e_gdtt, e_gdtf, e_gdft, e_gdff, e_ift, e_iff, e_not, e_ln, e_lnT, e_cp, e_cvi, e_ex20, e_ex21, e_ex30, e_ex31, e_ex32, e_add, e_sub, e_mul, e_quo, e_rem, e_and, e_or, e_xor, e_shl, e_shr, e_eql, e_neq, e_lss, e_leq, e_gtr, e_geq, e_beq, e_bne, e_peq1, e_peq2, e_pne1, e_pne2, e_zeq1, e_zeq2, e_zne1, e_zne2, e_feq1, e_fne1, e_feq2, e_fne2, e_seq, e_sne, e_ta1, e_ta2, Nat.zero_add, Nat.add_zero, Bool.not_true, Bool.not_false]
  refine ld1_r hp4.top rfl ?_
  simp only [e_fd, e_nck, e_pkt, e_pkf, e_gdtt, e_gdtf, e_gdft, e_gdff, e_ift, e_iff, e_not, e_ln, e_lnT, e_cp, e_cvi, e_ex20, e_ex21, e_ex30, e_ex31, e_ex32, e_add, e_sub, e_mul, e_quo, e_rem, e_and, e_or, e_xor, e_shl, e_shr, e_eql, e_neq, e_lss, e_leq, e_gtr, e_geq, e_beq, e_bne, e_peq1, e_peq2, e_pne1, e_pne2, e_zeq1, e_zeq2, e_zne1, e_zne2, e_feq1, e_fne1, e_feq2, e_fne2, e_seq, e_sne, e_ta1, e_ta2, Nat.zero_add, Nat.add_zero, Bool.not_true, Bool.not_false]
  refine bnd_atts hp4 hV4 (hk4.row' rv3) hil (fun a ha => ?_) (Kp.refl _ _) fun w5 hk5 => hK _ _ _ _ (h4.kp hk5) (hp4.kp' hk5)
  rw [hrows a ha]
  refine ⟨?_, fun c hc => ?_⟩
  · unfold rowOf; rw [rowTo_length]; have := rlen_le a; omega
  · unfold rowOf rowTo at hc
    obtain ⟨i, _, rfl⟩ := List.mem_map.1 hc
    exact ctrOf_ok h1.good.inv a _
end

theorem bnd_law {W : World} {v : Value} {ops : List Op} (hs : Scr W v ops) : cl Try.prog 9 #[v] (fun r w' => r = .bool true ∧ Below W.heap.size W w') W := by
  apply c9
  unfold s9_p16
  refine small_ok hs ?_
  simp only [e_fd, e_nck, e_pkt, e_pkf, e_gdtt, e_gdtf, e_gdft, e_gdff, e_ift, e_iff, e_not, e_ln, e_lnT, e_cp, e_cvi, e_ex20, e_ex21, e_ex30, e_ex31, e_ex32, e_add, e_sub, e_mul, e_quo, e_rem, e_and, e_or, e_xor, e_shl, e_shr, e_eql, e_neq, e_lss, e_leq, e_gtr, e_geq, e_beq, e_bne, e_peq1, e_peq2, e_pne1, e_pne2, e_zeq1, e_zeq2, e_zne1, e_zne2, e_feq1, e_fne1, e_feq2, e_fne2, e_seq, e_sne, e_ta1, e_ta2, Nat.zero_add, Nat.add_zero, Bool.not_true, Bool.not_false]
  by_cases hsm : ops.length ≤ 65536
  · rw [decide_eq_true hsm]
    simp only [Bool.not_true, e_fd, e_nck, e_pkt, e_pkf, e_gdtt, e_gdtf, e_gdft, e_gdff, e_ift, e_iff, e_not, e_ln, e_lnT, e_cp, e_cvi, e_ex20, e_ex21, e_ex30, e_ex31, e_ex32, e_add, e_sub, e_mul, e_quo, e_rem, e_and, e_or, e_xor, e_shl, e_shr, e_eql, e_neq, e_lss, e_leq, e_gtr, e_geq, e_beq, e_bne, e_peq1, e_peq2, e_pne1, e_pne2, e_zeq1, e_zeq2, e_zne1, e_zne2, e_feq1, e_fne1, e_feq2, e_fne2, e_seq, e_sne, e_ta1, e_ta2, Nat.zero_add, Nat.add_zero, Bool.not_true, Bool.not_false]
    refine fresh_st fun w0 d tb ts0 h0 hk0 hd0 => ?_
    refine park_ok fun w1 ab hab r1 hb1 => ?_
    refine nw_r fun w2 r2 hb2 hz2 => ?_
    refine stn_r r2 rfl (Nat.le_of_ble_eq_true rfl) rfl fun w3 r3 hb3 hz3 => ?_
    replace r3 : Row w3 w1.heap.size 30 [I 6, I 90, .slice (some ⟨ab, 0, none⟩) 4 4] := r3
    have k3 : Kp (fun _ => False) w1 w3 := hb2.then hb3 (by intro k hk (e : k = _); omega)
    have hS0 : St W w3 d tb 0 ts0 [] := (h0.kp hb1).kp k3
    have hP0 : ParkAt w3 w1.heap.size ab := ⟨r3, k3.row' r1⟩
    refine hs.ln ?_
    generalize hcb : w1.heap.size = cb at *
    refine ⟨fun m l w => ∃ (i : Nat) (now : Int) (ts : List Tab) (L : List Ent), i ≤ ops.length ∧ m = ops.length - i ∧ l = [ptr d, ptr cb, v, I ops.length, I i] ∧ St W w d tb now ts L ∧ ParkAt w cb ab,
      ops.length, ⟨0, 0, ts0, [], by omega, by omega, rfl, hS0, hP0⟩, ?_⟩
    rintro m l w ⟨i, now, ts, L, hi, hm, rfl, h, hp⟩
    rw [s9_p15_Fe]
    unfold s9_p14
    simp only [e_fd, e_nck, e_pkt, e_pkf, e_gdtt, e_gdtf, e_gdft, e_gdff, e_ift, e_iff, e_not, e_ln, e_lnT, e_cp, e_cvi, e_ex20, e_ex21, e_ex30, e_ex31, e_ex32, e_add, e_sub, e_mul, e_quo, e_rem, e_and, e_or, e_xor, e_shl, e_shr, e_eql, e_neq, e_lss, e_leq, e_gtr, e_geq, e_beq, e_bne, e_peq1, e_peq2, e_pne1, e_pne2, e_zeq1, e_zeq2, e_zne1, e_zne2, e_feq1, e_fne1, e_feq2, e_fne2, e_seq, e_sne, e_ta1, e_ta2, Nat.zero_add, Nat.add_zero, Bool.not_true, Bool.not_false]
    by_cases hlt : i < ops.length
    · have hlt' : (i : Int) < (ops.length : Int) := by omega
      simp only [hlt', decide_true, e_fd, e_nck, e_pkt, e_pkf, e_gdtt, e_gdtf, e_gdft, e_gdff, e_ift, e_iff, e_not, e_ln, e_lnT, e_cp, e_cvi, e_ex20, e_ex21, e_ex30, e_ex31, e_ex32, e_add, e_sub, e_mul, e_quo, e_rem, e_and, e_or, e_xor, e_shl, e_shr, e_eql, e_neq, e_lss, e_leq, e_gtr, e_geq, e_beq, e_bne, e_peq1, e_peq2, e_pne1, e_pne2, e_zeq1, e_zeq2, e_zne1, e_zne2, e_feq1, e_fne1, e_feq2, e_fne2, e_seq, e_sne, e_ta1, e_ta2, Nat.zero_add, Nat.add_zero, Bool.not_true, Bool.not_false]
      refine bnd_round hs hlt h hp fun w' now' ts' L' h' hp' => ?_
      unfold s9_p2
      simp only [e_fd, e_nck, e_pkt, e_pkf, e_gdtt, e_gdtf, e_gdft, e_gdff, e_ift, e_iff, e_not, e_ln, e_lnT, e_cp, e_cvi, e_ex20, e_ex21, e_ex30, e_ex31, e_ex32, e_add, e_sub, e_mul, e_quo, e_rem, e_and, e_or, e_xor, e_shl, e_shr, e_eql, e_neq, e_lss, e_leq, e_gtr, e_geq, e_beq, e_bne, e_peq1, e_peq2, e_pne1, e_pne2, e_zeq1, e_zeq2, e_zne1, e_zne2, e_feq1, e_fne1, e_feq2, e_fne2, e_seq, e_sne, e_ta1, e_ta2, Nat.zero_add, Nat.add_zero, Bool.not_true, Bool.not_false]
      rw [wrap64_id (by omega) (by omega)]
      exact ⟨ops.length - (i + 1), by omega, i + 1, now', ts', L', by omega, rfl, by simp, h', hp'⟩
    · have hlt' : ¬ (i : Int) < (ops.length : Int) := by omega
      simp only [hlt', decide_false, e_fd, e_nck, e_pkt, e_pkf, e_gdtt, e_gdtf, e_gdft, e_gdff, e_ift, e_iff, e_not, e_ln, e_lnT, e_cp, e_cvi, e_ex20, e_ex21, e_ex30, e_ex31, e_ex32, e_add, e_sub, e_mul, e_quo, e_rem, e_and, e_or, e_xor, e_shl, e_shr, e_eql, e_neq, e_lss, e_leq, e_gtr, e_geq, e_beq, e_bne, e_peq1, e_peq2, e_pne1, e_pne2, e_zeq1, e_zeq2, e_zne1, e_zne2, e_feq1, e_fne1, e_feq2, e_fne2, e_seq, e_sne, e_ta1, e_ta2, Nat.zero_add, Nat.add_zero, Bool.not_true, Bool.not_false]
      unfold s9_p1
      exact ⟨rfl, h.bel⟩
  · rw [decide_eq_false hsm]
    simp only [Bool.not_false, e_fd, e_nck, e_pkt, e_pkf, e_gdtt, e_gdtf, e_gdft, e_gdff, e_ift, e_iff, e_not, e_ln, e_lnT, e_cp, e_cvi, e_ex20, e_ex21, e_ex30, e_ex31, e_ex32, e_add, e_sub, e_mul, e_quo, e_rem, e_and, e_or, e_xor, e_shl, e_shr, e_eql, e_neq, e_lss, e_leq, e_gtr, e_geq, e_beq, e_bne, e_peq1, e_peq2, e_pne1, e_pne2, e_zeq1, e_zeq2, e_zne1, e_zne2, e_feq1, e_fne1, e_feq2, e_fne2, e_seq, e_sne, e_ta1, e_ta2, Nat.zero_add, Nat.add_zero, Bool.not_true, Bool.not_false]
    exact ⟨trivial, Below.refl _ _⟩

theorem bnd_walk {W : World} {v : Value} {ops : List Op} (hs : Scr W v ops) : Calls Try.prog 9 #[v] W fun e w' => e = .returned (.bool true) ∧ Below W.heap.size W w' :=
  Calls.mono (bnd_law hs) fun e w' ⟨v, he, hv, hb⟩ => ⟨by rw [he, hv], hb⟩
end Go.Proofs.Qxb6500897a
