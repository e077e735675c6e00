import Derived.Test.Qxb6500897aP5
namespace Go.Proofs.Qxb6500897a
open Go.Sh Go.RowKit
set_option linter.unusedVariables false
set_option linter.unusedSimpArgs false

/-- n more in each of k cells from cell x on -/
def addN (occ : List Int) (x : Nat) (n : Int) : Nat → List Int
  | 0 => occ
  | k + 1 => (addN occ x n k).set ((x + k) % occ.length) ((addN occ x n k).getD ((x + k) % occ.length) 0 + n)

theorem addN_length (occ : List Int) (x : Nat) (n : Int) (k : Nat) : (addN occ x n k).length = occ.length := by
  induction k with
  | zero => rfl
  | succ k ih => rw [addN, List.length_set, ih]

theorem getD_set (l : List Int) (i j : Nat) (v : Int) : (l.set i v).getD j 0 = if i = j ∧ i < l.length then v else l.getD j 0 := by
  simp only [List.getD_eq_getElem?_getD, List.getElem?_set]
  by_cases h : i = j
  · subst h
    by_cases h2 : i < l.length
    · simp [h2]
    · simp [h2]
  · simp [h]

theorem addN_bd {occ : List Int} {n : Int} (h : ∀ i, 0 ≤ occ.getD i 0 ∧ occ.getD i 0 ≤ 1073741824) (h1 : -1073741824 ≤ n) (h2 : n ≤ 1073741824) (x k : Nat) :
    ∀ i, -(1073741824 * (k + 1 : Int)) ≤ (addN occ x n k).getD i 0 ∧ (addN occ x n k).getD i 0 ≤ 1073741824 * (k + 1 : Int) := by
  induction k with
  | zero => intro i; have := h i; simp only [addN]; omega
  | succ k ih =>
    intro i
    rw [addN, getD_set]
    have a := ih i
    have b := ih ((x + k) % occ.length)
    split <;> omega

def Tab.upd (t : Tab) (occ adm : List Int) : Tab := { t with occ := occ, adm := adm }
theorem upd_cells {t : Tab} {occ adm : List Int} (h1 : occ.length = t.occ.length) (h2 : adm.length = t.adm.length) : (t.upd occ adm).cells = t.cells := by
  unfold Tab.upd Tab.cells
  simp only [h1, h2]

theorem TabAt.setOcc {w w' : World} {tb o : Nat} {t : Tab} {i : Nat} {v : Int} (h : TabAt w tb o t) (hr : Row w' t.ob 3 ((t.occ.map I).set i (I v))) (hk : Kp (fun k => k = t.ob) w w') :
    TabAt w' tb o (t.upd (t.occ.set i v) t.adm) := by
  obtain ⟨l, hl, hj⟩ := h.row
  refine ⟨⟨l, hk.row hl (fun e => h.n1 e.symm), fun j hj' => ?_⟩, ?_, hk.row h.adm (fun e => h.n3 e.symm), h.n1, h.n2, h.n3⟩
  · rw [upd_cells (by simp) rfl]; exact hj j hj'
  · show Row w' t.ob 3 ((t.occ.set i v).map I)
    rw [List.map_set]; exact hr
theorem TabAt.setAdm {w w' : World} {tb o : Nat} {t : Tab} {i : Nat} {v : Int} (h : TabAt w tb o t) (hr : Row w' t.ab 3 ((t.adm.map I).set i (I v))) (hk : Kp (fun k => k = t.ab) w w') :
    TabAt w' tb o (t.upd t.occ (t.adm.set i v)) := by
  obtain ⟨l, hl, hj⟩ := h.row
  refine ⟨⟨l, hk.row hl (fun e => h.n2 e.symm), fun j hj' => ?_⟩, hk.row h.occ h.n3, ?_, h.n1, h.n2, h.n3⟩
  · rw [upd_cells rfl (by simp)]; exact hj j hj'
  · show Row w' t.ab 3 ((t.adm.set i v).map I)
    rw [List.map_set]; exact hr
theorem TOk.upd {t : Tab} (ht : TOk t) {occ adm : List Int} (h1 : occ.length = t.occ.length) (h2 : adm.length = t.adm.length) : TOk (t.upd occ adm) :=
  ⟨ht.d1, ht.d2, ht.c1, ht.c2, by show 0 < occ.length; rw [h1]; exact ht.l1, by show occ.length ≤ _; rw [h1]; exact ht.l2, by show adm.length = 3 * occ.length; rw [h1, h2]; exact ht.a1⟩

/-- what add does -/
def addT (t : Tab) (x c : Nat) (n : Int) : Tab :=
  t.upd (addN t.occ x n t.att.dwell.toNat) (t.adm.set (x % t.occ.length * 3 + c) (t.adm.getD (x % t.occ.length * 3 + c) 0 + n))

theorem add_loop {w : World} {tb o : Nat} {t : Tab} {K : Value → World → Prop} {x : Nat} {n : Int} {adm : List Int} (W : World) (ha : adm.length = t.adm.length) (h : TabAt w tb o (t.upd t.occ adm)) (ht : TOk t) (hs : TSm t)
    (n1 : -1073741824 ≤ n) (n2 : n ≤ 1073741824) (hw : Kp (fun k => k = t.ob ∨ k = t.ab) W w) (hz : w.heap.size = W.heap.size)
    (hK : ∀ w', TabAt w' tb o (t.upd (addN t.occ x n t.att.dwell.toNat) adm) → Kp (fun k => k = t.ob ∨ k = t.ab) W w' → w'.heap.size = W.heap.size → K (.tuple #[]) w') :
    s66_p2 K (.pointer (some ⟨tb, o, none⟩)) (I n) (I (x % t.occ.length : Nat)) (I 0) w := by
  have d1 := ht.d1
  have d2 := ht.d2
  have l1 := ht.l1
  refine ⟨fun m l w => ∃ k : Nat, k ≤ t.att.dwell ∧ m = t.att.dwell.toNat - k ∧ l = [.pointer (some ⟨tb, o, none⟩), I n, I ((x + k) % t.occ.length : Nat), I (k : Nat)] ∧
      TabAt w tb o (t.upd (addN t.occ x n k) adm) ∧ Kp (fun k => k = t.ob ∨ k = t.ab) W w ∧ w.heap.size = W.heap.size,
    t.att.dwell.toNat, ⟨0, by omega, by omega, rfl, h, hw, hz⟩, ?_⟩
  rintro m l w ⟨k, hk, rfl, rfl, h, hw, hz⟩
  rw [s66_p2_Fe]
  unfold s66_p1
  simp only [e_fd, e_nck, e_pkt, e_pkf, e_gdtt, e_gdtf, e_gdft, e_gdff, e_ift, e_iff, e_not, e_ln, e_lnT, e_cp, e_cvi, e_ex20, e_ex21, e_ex30, e_ex31, e_ex32, e_add, e_sub, e_mul, e_quo, e_rem, e_and, e_or, e_xor, e_shl, e_shr, e_eql, e_neq, e_lss, e_leq, e_gtr, e_geq, e_beq, e_bne, e_peq1, e_peq2, e_pne1, e_pne2, e_zeq1, e_zeq2, e_zne1, e_zne2, e_feq1, e_fne1, e_feq2, e_fne2, e_seq, e_sne, e_ta1, e_ta2, Nat.zero_add, Nat.add_zero, Bool.not_true, Bool.not_false]
  refine h.fld (j := 1) (by omega) rfl ?_
  simp only [e_fd, e_nck, e_pkt, e_pkf, e_gdtt, e_gdtf, e_gdft, e_gdff, e_ift, e_iff, e_not, e_ln, e_lnT, e_cp, e_cvi, e_ex20, e_ex21, e_ex30, e_ex31, e_ex32, e_add, e_sub, e_mul, e_quo, e_rem, e_and, e_or, e_xor, e_shl, e_shr, e_eql, e_neq, e_lss, e_leq, e_gtr, e_geq, e_beq, e_bne, e_peq1, e_peq2, e_pne1, e_pne2, e_zeq1, e_zeq2, e_zne1, e_zne2, e_feq1, e_fne1, e_feq2, e_fne2, e_seq, e_sne, e_ta1, e_ta2, Nat.zero_add, Nat.add_zero, Bool.not_true, Bool.not_false]
  have el := addN_length t.occ x n k
  have ht' := ht.upd (occ := addN t.occ x n k) (adm := adm) el ha
  by_cases hlt : (k : Int) < t.att.dwell
  · have hlt' : (k : Int) < (t.upd (addN t.occ x n k) adm).att.dwell := hlt
    simp only [hlt', decide_true, e_fd, e_nck, e_pkt, e_pkf, e_gdtt, e_gdtf, e_gdft, e_gdff, e_ift, e_iff, e_not, e_ln, e_lnT, e_cp, e_cvi, e_ex20, e_ex21, e_ex30, e_ex31, e_ex32, e_add, e_sub, e_mul, e_quo, e_rem, e_and, e_or, e_xor, e_shl, e_shr, e_eql, e_neq, e_lss, e_leq, e_gtr, e_geq, e_beq, e_bne, e_peq1, e_peq2, e_pne1, e_pne2, e_zeq1, e_zeq2, e_zne1, e_zne2, e_feq1, e_fne1, e_feq2, e_fne2, e_seq, e_sne, e_ta1, e_ta2, Nat.zero_add, Nat.add_zero, Bool.not_true, Bool.not_false]
    refine h.fld (j := 7) (by omega) rfl ?_
    have hm : (x + k) % t.occ.length < (t.upd (addN t.occ x n k) adm).occ.length := by
      show _ < (addN t.occ x n k).length
      rw [el]; exact Nat.mod_lt _ l1
    refine ixs1_r hm ?_
    refine ldI h.occ hm ?_
    have hbd := addN_bd hs.occ n1 n2 x k ((x + k) % t.occ.length)
    simp only [e_fd, e_nck, e_pkt, e_pkf, e_gdtt, e_gdtf, e_gdft, e_gdff, e_ift, e_iff, e_not, e_ln, e_lnT, e_cp, e_cvi, e_ex20, e_ex21, e_ex30, e_ex31, e_ex32, e_add, e_sub, e_mul, e_quo, e_rem, e_and, e_or, e_xor, e_shl, e_shr, e_eql, e_neq, e_lss, e_leq, e_gtr, e_geq, e_beq, e_bne, e_peq1, e_peq2, e_pne1, e_pne2, e_zeq1, e_zeq2, e_zne1, e_zne2, e_feq1, e_fne1, e_feq2, e_fne2, e_seq, e_sne, e_ta1, e_ta2, Nat.zero_add, Nat.add_zero, Bool.not_true, Bool.not_false]
    rw [wrap64_id (n := (t.upd (addN t.occ x n k) adm).occ.getD ((x + k) % t.occ.length) 0 + n) (by show _ ≤ (addN t.occ x n k).getD _ 0 + n; omega) (by show (addN t.occ x n k).getD _ 0 + n ≤ _; omega)]
    refine ixs1_r hm ?_
    refine st1_r h.occ (by simpa using hm) rfl fun w1 r1 hb1 hz1 => ?_
    have h1 := h.setOcc r1 hb1
    have ht1 : TOk ((t.upd (addN t.occ x n k) adm).upd ((addN t.occ x n k).set ((x + k) % t.occ.length) ((addN t.occ x n k).getD ((x + k) % t.occ.length) 0 + n)) adm) := ht'.upd (by simp [Tab.upd]) rfl
    refine next_ok h1 ht1 (by show _ < ((addN t.occ x n k).set _ _).length; rw [List.length_set]; exact hm) ?_
    have e3 : ((t.upd (addN t.occ x n k) adm).upd ((t.upd (addN t.occ x n k) adm).occ.set ((x + k) % t.occ.length) ((t.upd (addN t.occ x n k) adm).occ.getD ((x + k) % t.occ.length) 0 + n)) (t.upd (addN t.occ x n k) adm).adm) = t.upd (addN t.occ x n (k + 1)) adm := rfl
    rw [e3] at h1 ⊢
    have e4 : (t.upd (addN t.occ x n (k + 1)) adm).occ.length = t.occ.length := addN_length _ _ _ _
    rw [e4, succ_mod, Nat.add_assoc]
    rw [wrap64_id (by omega) (by omega)]
    exact ⟨t.att.dwell.toNat - (k + 1), by omega, k + 1, by omega, rfl, rfl, h1, hw.trans (hb1.mono fun q _ e => .inl e), by rw [hz1, hz]⟩
  · have hlt' : ¬ (k : Int) < (t.upd (addN t.occ x n k) adm).att.dwell := hlt
    simp only [hlt', decide_false, e_fd, e_nck, e_pkt, e_pkf, e_gdtt, e_gdtf, e_gdft, e_gdff, e_ift, e_iff, e_not, e_ln, e_lnT, e_cp, e_cvi, e_ex20, e_ex21, e_ex30, e_ex31, e_ex32, e_add, e_sub, e_mul, e_quo, e_rem, e_and, e_or, e_xor, e_shl, e_shr, e_eql, e_neq, e_lss, e_leq, e_gtr, e_geq, e_beq, e_bne, e_peq1, e_peq2, e_pne1, e_pne2, e_zeq1, e_zeq2, e_zne1, e_zne2, e_feq1, e_fne1, e_feq2, e_fne2, e_seq, e_sne, e_ta1, e_ta2, Nat.zero_add, Nat.add_zero, Bool.not_true, Bool.not_false]
    have e : k = t.att.dwell.toNat := by omega
    rw [e] at h
    exact hK w h hw hz

theorem add_ok {w : World} {tb o : Nat} {t : Tab} {K : Value → World → Prop} {s n : Int} {c : Nat} (h : TabAt w tb o t) (ht : TOk t) (hs : TSm t) (h0 : 0 ≤ s + (t.att.dwell - 1)) (h1 : s ≤ 1099511627776) (hc : c < 3)
    (n1 : -1073741824 ≤ n) (n2 : n ≤ 1073741824)
    (hK : ∀ w', TabAt w' tb o (addT t (s + (t.att.dwell - 1)).toNat c n) → Kp (fun k => k = t.ob ∨ k = t.ab) w w' → K (.tuple #[]) w') : cl Try.prog 66 #[.pointer (some ⟨tb, o, none⟩), I s, I c, I n] K w := by
  have l1 := ht.l1
  have l2 := ht.l2
  have a1 := ht.a1
  apply c66
  unfold s66_p3
  refine cell_ok h ht h0 h1 fun w1 hb1 => ?_
  have hm := Nat.mod_lt (s + (t.att.dwell - 1)).toNat l1
  have h' := h.kp hb1
  simp only [e_fd, e_nck, e_pkt, e_pkf, e_gdtt, e_gdtf, e_gdft, e_gdff, e_ift, e_iff, e_not, e_ln, e_lnT, e_cp, e_cvi, e_ex20, e_ex21, e_ex30, e_ex31, e_ex32, e_add, e_sub, e_mul, e_quo, e_rem, e_and, e_or, e_xor, e_shl, e_shr, e_eql, e_neq, e_lss, e_leq, e_gtr, e_geq, e_beq, e_bne, e_peq1, e_peq2, e_pne1, e_pne2, e_zeq1, e_zeq2, e_zne1, e_zne2, e_feq1, e_fne1, e_feq2, e_fne2, e_seq, e_sne, e_ta1, e_ta2, Nat.zero_add, Nat.add_zero, Bool.not_true, Bool.not_false]
  refine h'.fld (j := 8) (by omega) rfl ?_
  generalize (s + (t.att.dwell - 1)).toNat = x at *
  rw [wrap64_id (n := ((x % t.occ.length : Nat) : Int) * 3) (by omega) (by omega), wrap64_id (n := ((x % t.occ.length : Nat) : Int) * 3 + c) (by omega) (by omega)]
  have e2 : (((x % t.occ.length : Nat) : Int) * 3 + c) = ((x % t.occ.length * 3 + c : Nat) : Int) := by omega
  rw [e2]
  have ha := hs.adm (x % t.occ.length * 3 + c)
  refine ixs1_r (by omega) ?_
  refine ldI h'.adm (by omega) ?_
  simp only [e_fd, e_nck, e_pkt, e_pkf, e_gdtt, e_gdtf, e_gdft, e_gdff, e_ift, e_iff, e_not, e_ln, e_lnT, e_cp, e_cvi, e_ex20, e_ex21, e_ex30, e_ex31, e_ex32, e_add, e_sub, e_mul, e_quo, e_rem, e_and, e_or, e_xor, e_shl, e_shr, e_eql, e_neq, e_lss, e_leq, e_gtr, e_geq, e_beq, e_bne, e_peq1, e_peq2, e_pne1, e_pne2, e_zeq1, e_zeq2, e_zne1, e_zne2, e_feq1, e_fne1, e_feq2, e_fne2, e_seq, e_sne, e_ta1, e_ta2, Nat.zero_add, Nat.add_zero, Bool.not_true, Bool.not_false]
  rw [wrap64_id (by omega) (by omega)]
  refine ixs1_r (by omega) ?_
  refine st1_r h'.adm (by simp; omega) rfl fun w2 r2 hb2 hz2 => ?_
  have h2 := h'.setAdm r2 hb2
  refine add_loop w2 (by simp) h2 ht hs n1 n2 (Kp.refl _ _) rfl fun w3 h3 hb3 hz3 => ?_
  exact hK w3 h3 ((hb1.none.trans (hb2.mono fun k _ e => .inr e)).trans hb3)
end Go.Proofs.Qxb6500897a
