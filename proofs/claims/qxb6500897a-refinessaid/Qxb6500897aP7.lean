import Derived.Test.Qxb6500897aP6
namespace Go.Proofs.Qxb6500897a
open Go.Sh Go.RowKit
set_option linter.unusedVariables false
set_option linter.unusedSimpArgs false

def clrO (occ : List Int) (x : Nat) : Nat → List Int
  | 0 => occ
  | k + 1 => (clrO occ x k).set ((x + k) % occ.length) 0
def clr3 (adm : List Int) (m : Nat) : Nat → List Int
  | 0 => adm
  | c + 1 => (clr3 adm m c).set (m * 3 + c) 0
def clrA (adm : List Int) (L x : Nat) : Nat → List Int
  | 0 => adm
  | k + 1 => clr3 (clrA adm L x k) ((x + k) % L) 3
theorem clrO_length (occ : List Int) (x k : Nat) : (clrO occ x k).length = occ.length := by
  induction k with
  | zero => rfl
  | succ k ih => rw [clrO, List.length_set, ih]
theorem clr3_length (adm : List Int) (m c : Nat) : (clr3 adm m c).length = adm.length := by
  induction c with
  | zero => rfl
  | succ k ih => rw [clr3, List.length_set, ih]
theorem clrA_length (adm : List Int) (L x k : Nat) : (clrA adm L x k).length = adm.length := by
  induction k with
  | zero => rfl
  | succ k ih => rw [clrA, clr3_length, ih]

def advT (t : Tab) (x k : Nat) : Tab := t.upd (clrO t.occ x k) (clrA t.adm t.occ.length x k)
theorem advT_zero (t : Tab) (x : Nat) : advT t x 0 = t := rfl

abbrev TB (t : Tab) : Nat → Prop := fun k => k = t.ob ∨ k = t.ab

theorem adv_inner {w : World} {tb o : Nat} {t : Tab} {K : Value → World → Prop} {B1 : List Value → World → Prop} {v : Value} {m : Nat} (W : World) (h : TabAt w tb o t) (ht : TOk t) (hm : m < t.occ.length)
    (hw : Kp (TB t) W w)
    (hK : ∀ w', TabAt w' tb o (t.upd t.occ (clr3 t.adm m 3)) → Kp (TB t) W w' → s71_p2 K B1 (.pointer (some ⟨tb, o, none⟩)) v (I m) w') :
    s71_p4 K B1 (.pointer (some ⟨tb, o, none⟩)) v (I m) (I 0) w := by
  have l2 := ht.l2
  have a1 := ht.a1
  refine ⟨fun n l w => ∃ c : Nat, c ≤ 3 ∧ n = 3 - c ∧ l = [.pointer (some ⟨tb, o, none⟩), v, I m, I (c : Nat)] ∧ TabAt w tb o (t.upd t.occ (clr3 t.adm m c)) ∧ Kp (TB t) W w,
    3, ⟨0, by omega, by omega, rfl, h, hw⟩, ?_⟩
  rintro n l w ⟨c, hc, rfl, rfl, h, hw⟩
  rw [s71_p4_Fe]
  unfold s71_p3
  simp only [e_fd, e_nck, e_pkt, e_pkf, e_gdtt, e_gdtf, e_gdft, e_gdff, e_ift, e_iff, e_not, e_ln, e_lnT, e_cp, e_cvi, e_ex20, e_ex21, e_ex30, e_ex31, e_ex32, e_add, e_sub, e_mul, e_quo, e_rem, e_and, e_or, e_xor, e_shl, e_shr, e_eql, e_neq, e_lss, e_leq, e_gtr, e_geq, e_beq, e_bne, e_peq1, e_peq2, e_pne1, e_pne2, e_zeq1, e_zeq2, e_zne1, e_zne2, e_feq1, e_fne1, e_feq2, e_fne2, e_seq, e_sne, e_ta1, e_ta2, Nat.zero_add, Nat.add_zero, Bool.not_true, Bool.not_false]
  by_cases hlt : (c : Int) < 3
  · simp only [hlt, decide_true, e_fd, e_nck, e_pkt, e_pkf, e_gdtt, e_gdtf, e_gdft, e_gdff, e_ift, e_iff, e_not, e_ln, e_lnT, e_cp, e_cvi, e_ex20, e_ex21, e_ex30, e_ex31, e_ex32, e_add, e_sub, e_mul, e_quo, e_rem, e_and, e_or, e_xor, e_shl, e_shr, e_eql, e_neq, e_lss, e_leq, e_gtr, e_geq, e_beq, e_bne, e_peq1, e_peq2, e_pne1, e_pne2, e_zeq1, e_zeq2, e_zne1, e_zne2, e_feq1, e_fne1, e_feq2, e_fne2, e_seq, e_sne, e_ta1, e_ta2, Nat.zero_add, Nat.add_zero, Bool.not_true, Bool.not_false]
    refine h.fld (j := 8) (by omega) rfl ?_
    rw [wrap64_id (n := (m : Int) * 3) (by omega) (by omega), wrap64_id (n := (m : Int) * 3 + c) (by omega) (by omega)]
    have e2 : ((m : Int) * 3 + c) = ((m * 3 + c : Nat) : Int) := by omega
    rw [e2]
    have el := clr3_length t.adm m c
    have hi : m * 3 + c < (t.upd t.occ (clr3 t.adm m c)).adm.length := by
      show _ < (clr3 t.adm m c).length
      omega
    refine ixs1_r hi ?_
    refine st1_r h.adm (by simpa using hi) rfl fun w1 r1 hb1 hz1 => ?_
    have h1 := h.setAdm r1 hb1
    rw [wrap64_id (by omega) (by omega)]
    exact ⟨3 - (c + 1), by omega, c + 1, by omega, rfl, rfl, h1, hw.trans (hb1.mono fun q _ e => .inr e)⟩
  · simp only [hlt, decide_false, e_fd, e_nck, e_pkt, e_pkf, e_gdtt, e_gdtf, e_gdft, e_gdff, e_ift, e_iff, e_not, e_ln, e_lnT, e_cp, e_cvi, e_ex20, e_ex21, e_ex30, e_ex31, e_ex32, e_add, e_sub, e_mul, e_quo, e_rem, e_and, e_or, e_xor, e_shl, e_shr, e_eql, e_neq, e_lss, e_leq, e_gtr, e_geq, e_beq, e_bne, e_peq1, e_peq2, e_pne1, e_pne2, e_zeq1, e_zeq2, e_zne1, e_zne2, e_feq1, e_fne1, e_feq2, e_fne2, e_seq, e_sne, e_ta1, e_ta2, Nat.zero_add, Nat.add_zero, Bool.not_true, Bool.not_false]
    have e : c = 3 := by omega
    subst e
    exact hK w h hw

theorem adv_loop {w : World} {tb o : Nat} {t : Tab} {K : Value → World → Prop} {x n : Nat} (W : World) (h : TabAt w tb o t) (ht : TOk t) (hn : n ≤ t.occ.length) (hw : Kp (TB t) W w)
    (hK : ∀ w', TabAt w' tb o (advT t x n) → Kp (TB t) W w' → K (.tuple #[]) w') :
    s71_p7 K (.pointer (some ⟨tb, o, none⟩)) (I n) (I (x % t.occ.length : Nat)) w := by
  have l1 := ht.l1
  have l2 := ht.l2
  refine ⟨fun m l w => ∃ k : Nat, k ≤ n ∧ m = n - k ∧ l = [.pointer (some ⟨tb, o, none⟩), I (n - k : Nat), I ((x + k) % t.occ.length : Nat)] ∧ TabAt w tb o (advT t x k) ∧ Kp (TB t) W w,
    n, ⟨0, by omega, by omega, rfl, h, hw⟩, ?_⟩
  rintro m l w ⟨k, hk, rfl, rfl, h, hw⟩
  rw [s71_p7_Fe]
  unfold s71_p6
  simp only [e_fd, e_nck, e_pkt, e_pkf, e_gdtt, e_gdtf, e_gdft, e_gdff, e_ift, e_iff, e_not, e_ln, e_lnT, e_cp, e_cvi, e_ex20, e_ex21, e_ex30, e_ex31, e_ex32, e_add, e_sub, e_mul, e_quo, e_rem, e_and, e_or, e_xor, e_shl, e_shr, e_eql, e_neq, e_lss, e_leq, e_gtr, e_geq, e_beq, e_bne, e_peq1, e_peq2, e_pne1, e_pne2, e_zeq1, e_zeq2, e_zne1, e_zne2, e_feq1, e_fne1, e_feq2, e_fne2, e_seq, e_sne, e_ta1, e_ta2, Nat.zero_add, Nat.add_zero, Bool.not_true, Bool.not_false]
  have eo := clrO_length t.occ x k
  have ea := clrA_length t.adm t.occ.length x k
  have ht' : TOk (advT t x k) := ht.upd eo ea
  by_cases hlt : (0 : Int) < ((n - k : Nat) : Int)
  · simp only [hlt, decide_true, e_fd, e_nck, e_pkt, e_pkf, e_gdtt, e_gdtf, e_gdft, e_gdff, e_ift, e_iff, e_not, e_ln, e_lnT, e_cp, e_cvi, e_ex20, e_ex21, e_ex30, e_ex31, e_ex32, e_add, e_sub, e_mul, e_quo, e_rem, e_and, e_or, e_xor, e_shl, e_shr, e_eql, e_neq, e_lss, e_leq, e_gtr, e_geq, e_beq, e_bne, e_peq1, e_peq2, e_pne1, e_pne2, e_zeq1, e_zeq2, e_zne1, e_zne2, e_feq1, e_fne1, e_feq2, e_fne2, e_seq, e_sne, e_ta1, e_ta2, Nat.zero_add, Nat.add_zero, Bool.not_true, Bool.not_false]
    unfold s71_p5
    simp only [e_fd, e_nck, e_pkt, e_pkf, e_gdtt, e_gdtf, e_gdft, e_gdff, e_ift, e_iff, e_not, e_ln, e_lnT, e_cp, e_cvi, e_ex20, e_ex21, e_ex30, e_ex31, e_ex32, e_add, e_sub, e_mul, e_quo, e_rem, e_and, e_or, e_xor, e_shl, e_shr, e_eql, e_neq, e_lss, e_leq, e_gtr, e_geq, e_beq, e_bne, e_peq1, e_peq2, e_pne1, e_pne2, e_zeq1, e_zeq2, e_zne1, e_zne2, e_feq1, e_fne1, e_feq2, e_fne2, e_seq, e_sne, e_ta1, e_ta2, Nat.zero_add, Nat.add_zero, Bool.not_true, Bool.not_false]
    refine h.fld (j := 7) (by omega) rfl ?_
    have hmx : (x + k) % t.occ.length < t.occ.length := Nat.mod_lt _ l1
    have hm : (x + k) % t.occ.length < (advT t x k).occ.length := by
      show _ < (clrO t.occ x k).length
      rw [eo]; exact hmx
    refine ixs1_r hm ?_
    refine st1_r h.occ (by simpa using hm) rfl fun w1 r1 hb1 hz1 => ?_
    have h1 := h.setOcc r1 hb1
    have ht1 : TOk ((advT t x k).upd ((advT t x k).occ.set ((x + k) % t.occ.length) 0) (advT t x k).adm) := ht'.upd (by simp) rfl
    refine adv_inner (t := (advT t x k).upd ((advT t x k).occ.set ((x + k) % t.occ.length) 0) (advT t x k).adm) W h1 ht1 (by show _ < ((advT t x k).occ.set _ _).length; rw [List.length_set]; exact hm)
      (hw.trans (hb1.mono fun q _ e => .inl e)) fun w2 h2 hb2 => ?_
    unfold s71_p2
    have e2 : ((advT t x k).upd ((advT t x k).occ.set ((x + k) % t.occ.length) 0) (advT t x k).adm).upd ((advT t x k).upd ((advT t x k).occ.set ((x + k) % t.occ.length) 0) (advT t x k).adm).occ
        (clr3 ((advT t x k).upd ((advT t x k).occ.set ((x + k) % t.occ.length) 0) (advT t x k).adm).adm ((x + k) % t.occ.length) 3) = advT t x (k + 1) := rfl
    rw [e2] at h2
    have eo2 : (advT t x (k + 1)).occ.length = t.occ.length := clrO_length t.occ x (k + 1)
    refine next_ok h2 (ht.upd (clrO_length t.occ x (k + 1)) (clrA_length t.adm t.occ.length x (k + 1))) (by rw [eo2]; exact hmx) ?_
    rw [eo2, succ_mod, Nat.add_assoc]
    unfold s71_p1
    simp only [e_fd, e_nck, e_pkt, e_pkf, e_gdtt, e_gdtf, e_gdft, e_gdff, e_ift, e_iff, e_not, e_ln, e_lnT, e_cp, e_cvi, e_ex20, e_ex21, e_ex30, e_ex31, e_ex32, e_add, e_sub, e_mul, e_quo, e_rem, e_and, e_or, e_xor, e_shl, e_shr, e_eql, e_neq, e_lss, e_leq, e_gtr, e_geq, e_beq, e_bne, e_peq1, e_peq2, e_pne1, e_pne2, e_zeq1, e_zeq2, e_zne1, e_zne2, e_feq1, e_fne1, e_feq2, e_fne2, e_seq, e_sne, e_ta1, e_ta2, Nat.zero_add, Nat.add_zero, Bool.not_true, Bool.not_false]
    rw [wrap64_id (by omega) (by omega)]
    have e3 : (((n - k : Nat) : Int) - 1) = ((n - (k + 1) : Nat) : Int) := by omega
    rw [e3]
    exact ⟨n - (k + 1), by omega, k + 1, by omega, rfl, rfl, h2, hb2⟩
  · simp only [hlt, decide_false, e_fd, e_nck, e_pkt, e_pkf, e_gdtt, e_gdtf, e_gdft, e_gdff, e_ift, e_iff, e_not, e_ln, e_lnT, e_cp, e_cvi, e_ex20, e_ex21, e_ex30, e_ex31, e_ex32, e_add, e_sub, e_mul, e_quo, e_rem, e_and, e_or, e_xor, e_shl, e_shr, e_eql, e_neq, e_lss, e_leq, e_gtr, e_geq, e_beq, e_bne, e_peq1, e_peq2, e_pne1, e_pne2, e_zeq1, e_zeq2, e_zne1, e_zne2, e_feq1, e_fne1, e_feq2, e_fne2, e_seq, e_sne, e_ta1, e_ta2, Nat.zero_add, Nat.add_zero, Bool.not_true, Bool.not_false]
    have e : k = n := by omega
    rw [e] at h
    exact hK w h hw

theorem advance_ok {w : World} {tb o : Nat} {t : Tab} {K : Value → World → Prop} {now n : Int} (h : TabAt w tb o t) (ht : TOk t) (h0 : 0 ≤ now) (h1 : now ≤ 1099511627776) (n0 : 0 ≤ n)
    (hK : ∀ w', TabAt w' tb o (advT t now.toNat (min n.toNat t.occ.length)) → Kp (TB t) w w' → K (.tuple #[]) w') : cl Try.prog 71 #[.pointer (some ⟨tb, o, none⟩), I now, I n] K w := by
  have d1 := ht.d1
  have d2 := ht.d2
  have l2 := ht.l2
  have tail : ∀ k : Nat, k = min n.toNat t.occ.length → s71_p8 K (.pointer (some ⟨tb, o, none⟩)) (I now) (I k) w := by
    intro k hk
    unfold s71_p8
    simp only [e_fd, e_nck, e_pkt, e_pkf, e_gdtt, e_gdtf, e_gdft, e_gdff, e_ift, e_iff, e_not, e_ln, e_lnT, e_cp, e_cvi, e_ex20, e_ex21, e_ex30, e_ex31, e_ex32, e_add, e_sub, e_mul, e_quo, e_rem, e_and, e_or, e_xor, e_shl, e_shr, e_eql, e_neq, e_lss, e_leq, e_gtr, e_geq, e_beq, e_bne, e_peq1, e_peq2, e_pne1, e_pne2, e_zeq1, e_zeq2, e_zne1, e_zne2, e_feq1, e_fne1, e_feq2, e_fne2, e_seq, e_sne, e_ta1, e_ta2, Nat.zero_add, Nat.add_zero, Bool.not_true, Bool.not_false]
    refine h.fld (j := 5) (by omega) rfl ?_
    simp only [e_fd, e_nck, e_pkt, e_pkf, e_gdtt, e_gdtf, e_gdft, e_gdff, e_ift, e_iff, e_not, e_ln, e_lnT, e_cp, e_cvi, e_ex20, e_ex21, e_ex30, e_ex31, e_ex32, e_add, e_sub, e_mul, e_quo, e_rem, e_and, e_or, e_xor, e_shl, e_shr, e_eql, e_neq, e_lss, e_leq, e_gtr, e_geq, e_beq, e_bne, e_peq1, e_peq2, e_pne1, e_pne2, e_zeq1, e_zeq2, e_zne1, e_zne2, e_feq1, e_fne1, e_feq2, e_fne2, e_seq, e_sne, e_ta1, e_ta2, Nat.zero_add, Nat.add_zero, Bool.not_true, Bool.not_false]
    rw [wrap64_id (by omega) (by omega)]
    refine cell_ok h ht (by omega) (by omega) fun w1 hb1 => ?_
    have e : now - (t.att.dwell - 1) + (t.att.dwell - 1) = now := by omega
    rw [e]
    refine adv_loop w (h.kp hb1) ht (by omega) hb1.none fun w2 h2 hb2 => ?_
    rw [hk] at h2
    exact hK w2 h2 hb2
  apply c71
  unfold s71_p9
  simp only [e_fd, e_nck, e_pkt, e_pkf, e_gdtt, e_gdtf, e_gdft, e_gdff, e_ift, e_iff, e_not, e_ln, e_lnT, e_cp, e_cvi, e_ex20, e_ex21, e_ex30, e_ex31, e_ex32, e_add, e_sub, e_mul, e_quo, e_rem, e_and, e_or, e_xor, e_shl, e_shr, e_eql, e_neq, e_lss, e_leq, e_gtr, e_geq, e_beq, e_bne, e_peq1, e_peq2, e_pne1, e_pne2, e_zeq1, e_zeq2, e_zne1, e_zne2, e_feq1, e_fne1, e_feq2, e_fne2, e_seq, e_sne, e_ta1, e_ta2, Nat.zero_add, Nat.add_zero, Bool.not_true, Bool.not_false]
  refine h.fld (j := 6) (by omega) rfl ?_
  simp only [e_fd, e_nck, e_pkt, e_pkf, e_gdtt, e_gdtf, e_gdft, e_gdff, e_ift, e_iff, e_not, e_ln, e_lnT, e_cp, e_cvi, e_ex20, e_ex21, e_ex30, e_ex31, e_ex32, e_add, e_sub, e_mul, e_quo, e_rem, e_and, e_or, e_xor, e_shl, e_shr, e_eql, e_neq, e_lss, e_leq, e_gtr, e_geq, e_beq, e_bne, e_peq1, e_peq2, e_pne1, e_pne2, e_zeq1, e_zeq2, e_zne1, e_zne2, e_feq1, e_fne1, e_feq2, e_fne2, e_seq, e_sne, e_ta1, e_ta2, Nat.zero_add, Nat.add_zero, Bool.not_true, Bool.not_false]
  by_cases hlt : (t.occ.length : Int) < n
  · simp only [hlt, decide_true, e_fd, e_nck, e_pkt, e_pkf, e_gdtt, e_gdtf, e_gdft, e_gdff, e_ift, e_iff, e_not, e_ln, e_lnT, e_cp, e_cvi, e_ex20, e_ex21, e_ex30, e_ex31, e_ex32, e_add, e_sub, e_mul, e_quo, e_rem, e_and, e_or, e_xor, e_shl, e_shr, e_eql, e_neq, e_lss, e_leq, e_gtr, e_geq, e_beq, e_bne, e_peq1, e_peq2, e_pne1, e_pne2, e_zeq1, e_zeq2, e_zne1, e_zne2, e_feq1, e_fne1, e_feq2, e_fne2, e_seq, e_sne, e_ta1, e_ta2, Nat.zero_add, Nat.add_zero, Bool.not_true, Bool.not_false]
    refine h.fld (j := 6) (by omega) rfl ?_
    exact tail t.occ.length (by omega)
  · simp only [hlt, decide_false, e_fd, e_nck, e_pkt, e_pkf, e_gdtt, e_gdtf, e_gdft, e_gdff, e_ift, e_iff, e_not, e_ln, e_lnT, e_cp, e_cvi, e_ex20, e_ex21, e_ex30, e_ex31, e_ex32, e_add, e_sub, e_mul, e_quo, e_rem, e_and, e_or, e_xor, e_shl, e_shr, e_eql, e_neq, e_lss, e_leq, e_gtr, e_geq, e_beq, e_bne, e_peq1, e_peq2, e_pne1, e_pne2, e_zeq1, e_zeq2, e_zne1, e_zne2, e_feq1, e_fne1, e_feq2, e_fne2, e_seq, e_sne, e_ta1, e_ta2, Nat.zero_add, Nat.add_zero, Bool.not_true, Bool.not_false]
    have e : n = ((n.toNat : Nat) : Int) := by omega
    have := tail n.toNat (by omega)
    rw [← e] at this
    exact this
end Go.Proofs.Qxb6500897a
