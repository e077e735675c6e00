import Derived.Test.Qxb6500897aP3
namespace Go.Proofs.Qxb6500897a
open Go.Sh Go.RowKit
set_option linter.unusedVariables false
set_option linter.unusedSimpArgs false

/-- one table in the row of tables -/
structure TabAt (w : World) (tb o : Nat) (t : Tab) : Prop where
  row : ∃ l, Row w tb 102 l ∧ ∀ j, j < 9 → l[o + j]? = t.cells[j]?
  occ : Row w t.ob 3 (t.occ.map I)
  adm : Row w t.ab 3 (t.adm.map I)
  n1 : t.ob ≠ tb
  n2 : t.ab ≠ tb
  n3 : t.ob ≠ t.ab

/-- the numbers of a table are in their bounds -/
structure TOk (t : Tab) : Prop where
  d1 : 1 ≤ t.att.dwell
  d2 : t.att.dwell ≤ 65536
  c1 : 1 ≤ t.att.cap
  c2 : t.att.cap ≤ 1073741824
  l1 : 0 < t.occ.length
  l2 : t.occ.length ≤ 2000000
  a1 : t.adm.length = 3 * t.occ.length

section
variable {w w' : World} {tb o : Nat} {t : Tab} {K : Value → World → Prop}
theorem TabAt.kp (h : TabAt w tb o t) (hk : Kp (fun _ => False) w w') : TabAt w' tb o t := by
  obtain ⟨l, hr, hl⟩ := h.row
  exact ⟨⟨l, hk.row' hr, hl⟩, hk.row' h.occ, hk.row' h.adm, h.n1, h.n2, h.n3⟩
theorem TabAt.fld (h : TabAt w tb o t) {j : Nat} (hj : j < 9) {v : Value} (hv : t.cells[j]? = some v) (hk : K v w) : ld1 (.pointer (some ⟨tb, o + j, none⟩)) K w := by
  obtain ⟨l, hr, hl⟩ := h.row
  exact ld1_r hr ((hl j hj).trans hv) hk
theorem TabAt.fld0 (h : TabAt w tb o t) {v : Value} (hv : t.cells[0]? = some v) (hk : K v w) : ld1 (.pointer (some ⟨tb, o, none⟩)) K w :=
  h.fld (j := 0) (by omega) hv hk
theorem ixs_r {k b n c i : Nat} (hi : i < n) (hk : K (.pointer (some ⟨b, i * k, none⟩)) w) : ixs k (.slice (some ⟨b, 0, none⟩) n c) (I i) K w := by
  refine ⟨⟨by omega, by omega⟩, ?_⟩
  have ei : ((i : Int)).toNat = i := by omega
  simp only [ei, add_mk, Nat.zero_add]
  exact hk
theorem ixs1_r {b n c i : Nat} (hi : i < n) (hk : K (.pointer (some ⟨b, i, none⟩)) w) : ixs 1 (.slice (some ⟨b, 0, none⟩) n c) (I i) K w := by
  apply ixs_r hi
  rw [Nat.mul_one]; exact hk
theorem ldI {b i : Nat} {ty : TypeId} {xs : List Int} (h : Row w b ty (xs.map I)) (hi : i < xs.length) (hk : K (I (xs.getD i 0)) w) : ld1 (.pointer (some ⟨b, i, none⟩)) K w := by
  refine ld1_r h (v := I (xs.getD i 0)) ?_ hk
  rw [List.getElem?_map, List.getElem?_eq_getElem hi]
  simp [List.getD, hi]
end

theorem tmod_nat (x L : Nat) : Int.tmod (x : Int) (L : Int) = ((x % L : Nat) : Int) := by
  rw [Int.tmod_eq_emod_of_nonneg (by omega)]; omega

theorem cell_ok {w : World} {tb o : Nat} {t : Tab} {K : Value → World → Prop} {s : Int} (h : TabAt w tb o t) (ht : TOk t) (h0 : 0 ≤ s + (t.att.dwell - 1)) (h1 : s ≤ 1099511627776)
    (hK : ∀ w', Kp (fun _ => False) w w' → K (I ((s + (t.att.dwell - 1)).toNat % t.occ.length : Nat)) w') : cl Try.prog 64 #[.pointer (some ⟨tb, o, none⟩), I s] K w := by
  have d1 := ht.d1
  have d2 := ht.d2
  have l1 := ht.l1
  apply c64
  unfold s64_p3 s64_p2 s64_p2_d
  simp only [e_fd, e_nck, e_pkt, e_pkf, e_gdtt, e_gdtf, e_gdft, e_gdff, e_ift, e_iff, e_not, e_ln, e_lnT, e_cp, e_cvi, e_ex20, e_ex21, e_ex30, e_ex31, e_ex32, e_add, e_sub, e_mul, e_quo, e_rem, e_and, e_or, e_xor, e_shl, e_shr, e_eql, e_neq, e_lss, e_leq, e_gtr, e_geq, e_beq, e_bne, e_peq1, e_peq2, e_pne1, e_pne2, e_zeq1, e_zeq2, e_zne1, e_zne2, e_feq1, e_fne1, e_feq2, e_fne2, e_seq, e_sne, e_ta1, e_ta2, Nat.zero_add, Nat.add_zero, Bool.not_true, Bool.not_false]
  have hd := h.kp (kp_drw)
  refine hd.fld (j := 5) (by omega) rfl ?_
  simp only [e_fd, e_nck, e_pkt, e_pkf, e_gdtt, e_gdtf, e_gdft, e_gdff, e_ift, e_iff, e_not, e_ln, e_lnT, e_cp, e_cvi, e_ex20, e_ex21, e_ex30, e_ex31, e_ex32, e_add, e_sub, e_mul, e_quo, e_rem, e_and, e_or, e_xor, e_shl, e_shr, e_eql, e_neq, e_lss, e_leq, e_gtr, e_geq, e_beq, e_bne, e_peq1, e_peq2, e_pne1, e_pne2, e_zeq1, e_zeq2, e_zne1, e_zne2, e_feq1, e_fne1, e_feq2, e_fne2, e_seq, e_sne, e_ta1, e_ta2, Nat.zero_add, Nat.add_zero, Bool.not_true, Bool.not_false]
  refine hd.fld (j := 6) (by omega) rfl ?_
  simp only [e_fd, e_nck, e_pkt, e_pkf, e_gdtt, e_gdtf, e_gdft, e_gdff, e_ift, e_iff, e_not, e_ln, e_lnT, e_cp, e_cvi, e_ex20, e_ex21, e_ex30, e_ex31, e_ex32, e_add, e_sub, e_mul, e_quo, e_rem, e_and, e_or, e_xor, e_shl, e_shr, e_eql, e_neq, e_lss, e_leq, e_gtr, e_geq, e_beq, e_bne, e_peq1, e_peq2, e_pne1, e_pne2, e_zeq1, e_zeq2, e_zne1, e_zne2, e_feq1, e_fne1, e_feq2, e_fne2, e_seq, e_sne, e_ta1, e_ta2, Nat.zero_add, Nat.add_zero, Bool.not_true, Bool.not_false]
  refine ⟨by omega, ?_⟩
  rw [wrap64_id (by omega) (by omega)]
  have e : s + (t.att.dwell - 1) = (((s + (t.att.dwell - 1)).toNat : Nat) : Int) := by omega
  rw [e, tmod_nat]
  unfold s64_p1
  exact hK _ kp_drw

theorem next_ok {w : World} {tb o : Nat} {t : Tab} {K : Value → World → Prop} {i : Nat} (h : TabAt w tb o t) (ht : TOk t) (hi : i < t.occ.length)
    (hK : K (I ((i + 1) % t.occ.length : Nat)) w) : cl Try.prog 77 #[.pointer (some ⟨tb, o, none⟩), I i] K w := by
  have l2 := ht.l2
  apply c77
  unfold s77_p1
  simp only [e_fd, e_nck, e_pkt, e_pkf, e_gdtt, e_gdtf, e_gdft, e_gdff, e_ift, e_iff, e_not, e_ln, e_lnT, e_cp, e_cvi, e_ex20, e_ex21, e_ex30, e_ex31, e_ex32, e_add, e_sub, e_mul, e_quo, e_rem, e_and, e_or, e_xor, e_shl, e_shr, e_eql, e_neq, e_lss, e_leq, e_gtr, e_geq, e_beq, e_bne, e_peq1, e_peq2, e_pne1, e_pne2, e_zeq1, e_zeq2, e_zne1, e_zne2, e_feq1, e_fne1, e_feq2, e_fne2, e_seq, e_sne, e_ta1, e_ta2, Nat.zero_add, Nat.add_zero, Bool.not_true, Bool.not_false]
  refine h.fld (j := 6) (by omega) rfl ?_
  simp only [e_fd, e_nck, e_pkt, e_pkf, e_gdtt, e_gdtf, e_gdft, e_gdff, e_ift, e_iff, e_not, e_ln, e_lnT, e_cp, e_cvi, e_ex20, e_ex21, e_ex30, e_ex31, e_ex32, e_add, e_sub, e_mul, e_quo, e_rem, e_and, e_or, e_xor, e_shl, e_shr, e_eql, e_neq, e_lss, e_leq, e_gtr, e_geq, e_beq, e_bne, e_peq1, e_peq2, e_pne1, e_pne2, e_zeq1, e_zeq2, e_zne1, e_zne2, e_feq1, e_fne1, e_feq2, e_fne2, e_seq, e_sne, e_ta1, e_ta2, Nat.zero_add, Nat.add_zero, Bool.not_true, Bool.not_false]
  rw [wrap64_id (by omega) (by omega)]
  by_cases hl : i + 1 = t.occ.length
  · have e : (((i : Int) + 1) == (t.occ.length : Int)) = true := by simp; omega
    simp only [e, e_fd, e_nck, e_pkt, e_pkf, e_gdtt, e_gdtf, e_gdft, e_gdff, e_ift, e_iff, e_not, e_ln, e_lnT, e_cp, e_cvi, e_ex20, e_ex21, e_ex30, e_ex31, e_ex32, e_add, e_sub, e_mul, e_quo, e_rem, e_and, e_or, e_xor, e_shl, e_shr, e_eql, e_neq, e_lss, e_leq, e_gtr, e_geq, e_beq, e_bne, e_peq1, e_peq2, e_pne1, e_pne2, e_zeq1, e_zeq2, e_zne1, e_zne2, e_feq1, e_fne1, e_feq2, e_fne2, e_seq, e_sne, e_ta1, e_ta2, Nat.zero_add, Nat.add_zero, Bool.not_true, Bool.not_false]
    rw [hl, Nat.mod_self] at hK
    exact hK
  · have e : (((i : Int) + 1) == (t.occ.length : Int)) = false := by simp; omega
    simp only [e, e_fd, e_nck, e_pkt, e_pkf, e_gdtt, e_gdtf, e_gdft, e_gdff, e_ift, e_iff, e_not, e_ln, e_lnT, e_cp, e_cvi, e_ex20, e_ex21, e_ex30, e_ex31, e_ex32, e_add, e_sub, e_mul, e_quo, e_rem, e_and, e_or, e_xor, e_shl, e_shr, e_eql, e_neq, e_lss, e_leq, e_gtr, e_geq, e_beq, e_bne, e_peq1, e_peq2, e_pne1, e_pne2, e_zeq1, e_zeq2, e_zne1, e_zne2, e_feq1, e_fne1, e_feq2, e_fne2, e_seq, e_sne, e_ta1, e_ta2, Nat.zero_add, Nat.add_zero, Bool.not_true, Bool.not_false]
    rw [Nat.mod_eq_of_lt (by omega)] at hK
    have e2 : ((i : Int) + 1) = ((i + 1 : Nat) : Int) := by omega
    rw [e2]; exact hK

theorem admitted_ok {w : World} {tb o : Nat} {t : Tab} {K : Value → World → Prop} {s : Int} {c : Nat} (h : TabAt w tb o t) (ht : TOk t) (h0 : 0 ≤ s + (t.att.dwell - 1)) (h1 : s ≤ 1099511627776) (hc : c < 3)
    (hK : ∀ w', Kp (fun _ => False) w w' → K (I (t.adm.getD ((s + (t.att.dwell - 1)).toNat % t.occ.length * 3 + c) 0)) w') : cl Try.prog 65 #[.pointer (some ⟨tb, o, none⟩), I s, I c] K w := by
  have l1 := ht.l1
  have l2 := ht.l2
  apply c65
  unfold s65_p3 s65_p2 s65_p2_d
  simp only [e_fd, e_nck, e_pkt, e_pkf, e_gdtt, e_gdtf, e_gdft, e_gdff, e_ift, e_iff, e_not, e_ln, e_lnT, e_cp, e_cvi, e_ex20, e_ex21, e_ex30, e_ex31, e_ex32, e_add, e_sub, e_mul, e_quo, e_rem, e_and, e_or, e_xor, e_shl, e_shr, e_eql, e_neq, e_lss, e_leq, e_gtr, e_geq, e_beq, e_bne, e_peq1, e_peq2, e_pne1, e_pne2, e_zeq1, e_zeq2, e_zne1, e_zne2, e_feq1, e_fne1, e_feq2, e_fne2, e_seq, e_sne, e_ta1, e_ta2, Nat.zero_add, Nat.add_zero, Bool.not_true, Bool.not_false]
  have hd := h.kp (kp_drw)
  refine hd.fld (j := 8) (by omega) rfl ?_
  refine cell_ok hd ht h0 h1 fun w1 hb1 => ⟨hb1.below', ?_⟩
  have hm := Nat.mod_lt (s + (t.att.dwell - 1)).toNat l1
  generalize (s + (t.att.dwell - 1)).toNat % t.occ.length = m at *
  simp only [e_mul]
  rw [wrap64_id (n := (m : Int) * 3) (by omega) (by omega)]
  refine ⟨hb1.below', ?_⟩
  simp only [e_fd, e_nck, e_pkt, e_pkf, e_gdtt, e_gdtf, e_gdft, e_gdff, e_ift, e_iff, e_not, e_ln, e_lnT, e_cp, e_cvi, e_ex20, e_ex21, e_ex30, e_ex31, e_ex32, e_add, e_sub, e_mul, e_quo, e_rem, e_and, e_or, e_xor, e_shl, e_shr, e_eql, e_neq, e_lss, e_leq, e_gtr, e_geq, e_beq, e_bne, e_peq1, e_peq2, e_pne1, e_pne2, e_zeq1, e_zeq2, e_zne1, e_zne2, e_feq1, e_fne1, e_feq2, e_fne2, e_seq, e_sne, e_ta1, e_ta2, Nat.zero_add, Nat.add_zero, Bool.not_true, Bool.not_false]
  rw [wrap64_id (by omega) (by omega)]
  have e2 : ((m : Int) * 3 + c) = ((m * 3 + c : Nat) : Int) := by omega
  rw [e2]
  have ha := ht.a1
  refine ⟨hb1.below', ?_⟩
  refine ixs1_r (by omega) ?_
  refine ldI (h.kp (kp_drw.trans hb1)).adm (by omega) ?_
  unfold s65_p1
  exact hK w1 (kp_drw.trans hb1)

/-- the highest of the first k + 1 cells from cell x on -/
def pkN (t : Tab) (x : Nat) : Nat → Int
  | 0 => t.occ.getD (x % t.occ.length) 0
  | k + 1 => if t.occ.getD ((x + (k + 1)) % t.occ.length) 0 > pkN t x k then t.occ.getD ((x + (k + 1)) % t.occ.length) 0 else pkN t x k

theorem succ_mod (x L : Nat) : (x % L + 1) % L = (x + 1) % L := by simp

theorem peak_loop {w : World} {tb o : Nat} {t : Tab} {K : Value → World → Prop} {x : Nat} (h : TabAt w tb o t) (ht : TOk t) (hK : K (I (pkN t x (t.att.dwell - 1).toNat)) w) :
    s72_p4 K (.pointer (some ⟨tb, o, none⟩)) (I (x % t.occ.length : Nat)) (I (t.occ.getD (x % t.occ.length) 0)) (I 1) w := by
  have d1 := ht.d1
  have d2 := ht.d2
  have l1 := ht.l1
  refine ⟨fun n l w' => w' = w ∧ ∃ k : Nat, k + 1 ≤ t.att.dwell ∧ n = (t.att.dwell - 1).toNat - k ∧ l = [.pointer (some ⟨tb, o, none⟩), I ((x + k) % t.occ.length : Nat), I (pkN t x k), I (k + 1 : Nat)],
    (t.att.dwell - 1).toNat, ⟨rfl, 0, by omega, by omega, rfl⟩, ?_⟩
  rintro n l w' ⟨rfl, k, hk, rfl, rfl⟩
  rw [s72_p4_Fe]
  unfold s72_p3
  simp only [e_fd, e_nck, e_pkt, e_pkf, e_gdtt, e_gdtf, e_gdft, e_gdff, e_ift, e_iff, e_not, e_ln, e_lnT, e_cp, e_cvi, e_ex20, e_ex21, e_ex30, e_ex31, e_ex32, e_add, e_sub, e_mul, e_quo, e_rem, e_and, e_or, e_xor, e_shl, e_shr, e_eql, e_neq, e_lss, e_leq, e_gtr, e_geq, e_beq, e_bne, e_peq1, e_peq2, e_pne1, e_pne2, e_zeq1, e_zeq2, e_zne1, e_zne2, e_feq1, e_fne1, e_feq2, e_fne2, e_seq, e_sne, e_ta1, e_ta2, Nat.zero_add, Nat.add_zero, Bool.not_true, Bool.not_false]
  refine h.fld (j := 1) (by omega) rfl ?_
  simp only [e_fd, e_nck, e_pkt, e_pkf, e_gdtt, e_gdtf, e_gdft, e_gdff, e_ift, e_iff, e_not, e_ln, e_lnT, e_cp, e_cvi, e_ex20, e_ex21, e_ex30, e_ex31, e_ex32, e_add, e_sub, e_mul, e_quo, e_rem, e_and, e_or, e_xor, e_shl, e_shr, e_eql, e_neq, e_lss, e_leq, e_gtr, e_geq, e_beq, e_bne, e_peq1, e_peq2, e_pne1, e_pne2, e_zeq1, e_zeq2, e_zne1, e_zne2, e_feq1, e_fne1, e_feq2, e_fne2, e_seq, e_sne, e_ta1, e_ta2, Nat.zero_add, Nat.add_zero, Bool.not_true, Bool.not_false]
  by_cases hlt : ((k + 1 : Nat) : Int) < t.att.dwell
  · simp only [hlt, decide_true, e_fd, e_nck, e_pkt, e_pkf, e_gdtt, e_gdtf, e_gdft, e_gdff, e_ift, e_iff, e_not, e_ln, e_lnT, e_cp, e_cvi, e_ex20, e_ex21, e_ex30, e_ex31, e_ex32, e_add, e_sub, e_mul, e_quo, e_rem, e_and, e_or, e_xor, e_shl, e_shr, e_eql, e_neq, e_lss, e_leq, e_gtr, e_geq, e_beq, e_bne, e_peq1, e_peq2, e_pne1, e_pne2, e_zeq1, e_zeq2, e_zne1, e_zne2, e_feq1, e_fne1, e_feq2, e_fne2, e_seq, e_sne, e_ta1, e_ta2, Nat.zero_add, Nat.add_zero, Bool.not_true, Bool.not_false]
    refine next_ok h ht (Nat.mod_lt _ l1) ?_
    rw [succ_mod, Nat.add_assoc]
    have hm := Nat.mod_lt (x + (k + 1)) l1
    refine h.fld (j := 7) (by omega) rfl ?_
    refine ixs1_r hm ?_
    refine ldI h.occ hm ?_
    simp only [e_fd, e_nck, e_pkt, e_pkf, e_gdtt, e_gdtf, e_gdft, e_gdff, e_ift, e_iff, e_not, e_ln, e_lnT, e_cp, e_cvi, e_ex20, e_ex21, e_ex30, e_ex31, e_ex32, e_add, e_sub, e_mul, e_quo, e_rem, e_and, e_or, e_xor, e_shl, e_shr, e_eql, e_neq, e_lss, e_leq, e_gtr, e_geq, e_beq, e_bne, e_peq1, e_peq2, e_pne1, e_pne2, e_zeq1, e_zeq2, e_zne1, e_zne2, e_feq1, e_fne1, e_feq2, e_fne2, e_seq, e_sne, e_ta1, e_ta2, Nat.zero_add, Nat.add_zero, Bool.not_true, Bool.not_false]
    by_cases hp : pkN t x k < t.occ.getD ((x + (k + 1)) % t.occ.length) 0
    · simp only [hp, decide_true, e_fd, e_nck, e_pkt, e_pkf, e_gdtt, e_gdtf, e_gdft, e_gdff, e_ift, e_iff, e_not, e_ln, e_lnT, e_cp, e_cvi, e_ex20, e_ex21, e_ex30, e_ex31, e_ex32, e_add, e_sub, e_mul, e_quo, e_rem, e_and, e_or, e_xor, e_shl, e_shr, e_eql, e_neq, e_lss, e_leq, e_gtr, e_geq, e_beq, e_bne, e_peq1, e_peq2, e_pne1, e_pne2, e_zeq1, e_zeq2, e_zne1, e_zne2, e_feq1, e_fne1, e_feq2, e_fne2, e_seq, e_sne, e_ta1, e_ta2, Nat.zero_add, Nat.add_zero, Bool.not_true, Bool.not_false]
      refine h.fld (j := 7) (by omega) rfl ?_
      refine ixs1_r hm ?_
      refine ldI h.occ hm ?_
      unfold s72_p2
      simp only [e_fd, e_nck, e_pkt, e_pkf, e_gdtt, e_gdtf, e_gdft, e_gdff, e_ift, e_iff, e_not, e_ln, e_lnT, e_cp, e_cvi, e_ex20, e_ex21, e_ex30, e_ex31, e_ex32, e_add, e_sub, e_mul, e_quo, e_rem, e_and, e_or, e_xor, e_shl, e_shr, e_eql, e_neq, e_lss, e_leq, e_gtr, e_geq, e_beq, e_bne, e_peq1, e_peq2, e_pne1, e_pne2, e_zeq1, e_zeq2, e_zne1, e_zne2, e_feq1, e_fne1, e_feq2, e_fne2, e_seq, e_sne, e_ta1, e_ta2, Nat.zero_add, Nat.add_zero, Bool.not_true, Bool.not_false]
      rw [wrap64_id (by omega) (by omega)]
      refine ⟨(t.att.dwell - 1).toNat - (k + 1), by omega, trivial, k + 1, by omega, rfl, ?_⟩
      have e : pkN t x (k + 1) = t.occ.getD ((x + (k + 1)) % t.occ.length) 0 := by rw [pkN]; exact if_pos hp
      rw [e]; rfl
    · simp only [hp, decide_false, e_fd, e_nck, e_pkt, e_pkf, e_gdtt, e_gdtf, e_gdft, e_gdff, e_ift, e_iff, e_not, e_ln, e_lnT, e_cp, e_cvi, e_ex20, e_ex21, e_ex30, e_ex31, e_ex32, e_add, e_sub, e_mul, e_quo, e_rem, e_and, e_or, e_xor, e_shl, e_shr, e_eql, e_neq, e_lss, e_leq, e_gtr, e_geq, e_beq, e_bne, e_peq1, e_peq2, e_pne1, e_pne2, e_zeq1, e_zeq2, e_zne1, e_zne2, e_feq1, e_fne1, e_feq2, e_fne2, e_seq, e_sne, e_ta1, e_ta2, Nat.zero_add, Nat.add_zero, Bool.not_true, Bool.not_false]
      unfold s72_p2
      simp only [e_fd, e_nck, e_pkt, e_pkf, e_gdtt, e_gdtf, e_gdft, e_gdff, e_ift, e_iff, e_not, e_ln, e_lnT, e_cp, e_cvi, e_ex20, e_ex21, e_ex30, e_ex31, e_ex32, e_add, e_sub, e_mul, e_quo, e_rem, e_and, e_or, e_xor, e_shl, e_shr, e_eql, e_neq, e_lss, e_leq, e_gtr, e_geq, e_beq, e_bne, e_peq1, e_peq2, e_pne1, e_pne2, e_zeq1, e_zeq2, e_zne1, e_zne2, e_feq1, e_fne1, e_feq2, e_fne2, e_seq, e_sne, e_ta1, e_ta2, Nat.zero_add, Nat.add_zero, Bool.not_true, Bool.not_false]
      rw [wrap64_id (by omega) (by omega)]
      refine ⟨(t.att.dwell - 1).toNat - (k + 1), by omega, trivial, k + 1, by omega, rfl, ?_⟩
      have e : pkN t x (k + 1) = pkN t x k := by rw [pkN]; exact if_neg hp
      rw [e]; rfl
  · simp only [hlt, decide_false, e_fd, e_nck, e_pkt, e_pkf, e_gdtt, e_gdtf, e_gdft, e_gdff, e_ift, e_iff, e_not, e_ln, e_lnT, e_cp, e_cvi, e_ex20, e_ex21, e_ex30, e_ex31, e_ex32, e_add, e_sub, e_mul, e_quo, e_rem, e_and, e_or, e_xor, e_shl, e_shr, e_eql, e_neq, e_lss, e_leq, e_gtr, e_geq, e_beq, e_bne, e_peq1, e_peq2, e_pne1, e_pne2, e_zeq1, e_zeq2, e_zne1, e_zne2, e_feq1, e_fne1, e_feq2, e_fne2, e_seq, e_sne, e_ta1, e_ta2, Nat.zero_add, Nat.add_zero, Bool.not_true, Bool.not_false]
    unfold s72_p1
    have e : k = (t.att.dwell - 1).toNat := by omega
    rw [e]; exact hK

theorem peak_ok {w : World} {tb o : Nat} {t : Tab} {K : Value → World → Prop} {s : Int} (h : TabAt w tb o t) (ht : TOk t) (h0 : 0 ≤ s + (t.att.dwell - 1)) (h1 : s ≤ 1099511627776)
    (hK : ∀ w', Kp (fun _ => False) w w' → K (I (pkN t (s + (t.att.dwell - 1)).toNat (t.att.dwell - 1).toNat)) w') : cl Try.prog 72 #[.pointer (some ⟨tb, o, none⟩), I s] K w := by
  have l1 := ht.l1
  apply c72
  unfold s72_p5
  refine cell_ok h ht h0 h1 fun w1 hb1 => ?_
  simp only [e_fd, e_nck, e_pkt, e_pkf, e_gdtt, e_gdtf, e_gdft, e_gdff, e_ift, e_iff, e_not, e_ln, e_lnT, e_cp, e_cvi, e_ex20, e_ex21, e_ex30, e_ex31, e_ex32, e_add, e_sub, e_mul, e_quo, e_rem, e_and, e_or, e_xor, e_shl, e_shr, e_eql, e_neq, e_lss, e_leq, e_gtr, e_geq, e_beq, e_bne, e_peq1, e_peq2, e_pne1, e_pne2, e_zeq1, e_zeq2, e_zne1, e_zne2, e_feq1, e_fne1, e_feq2, e_fne2, e_seq, e_sne, e_ta1, e_ta2, Nat.zero_add, Nat.add_zero, Bool.not_true, Bool.not_false]
  have hm := Nat.mod_lt (s + (t.att.dwell - 1)).toNat l1
  have h' := h.kp hb1
  refine h'.fld (j := 7) (by omega) rfl ?_
  refine ixs1_r hm ?_
  refine ldI h'.occ hm ?_
  exact peak_loop h' ht (hK w1 hb1)

def Att.q (a : Att) : Nat → Int
  | 0 => a.q0
  | 1 => a.q1
  | _ => a.q2

/-- what fits answers -/
def fitsF (t : Tab) (s : Int) (c : Nat) (n : Int) : Int :=
  if t.att.cap - pkN t (s + (t.att.dwell - 1)).toNat (t.att.dwell - 1).toNat < n then 5
  else if t.att.q c - t.adm.getD ((s + (t.att.dwell - 1)).toNat % t.occ.length * 3 + c) 0 < n then 6 else 0

/-- the counters are small -/
structure TSm (t : Tab) : Prop where
  occ : ∀ i, 0 ≤ t.occ.getD i 0 ∧ t.occ.getD i 0 ≤ 1073741824
  adm : ∀ i, 0 ≤ t.adm.getD i 0 ∧ t.adm.getD i 0 ≤ 1073741824
  q : ∀ c, 0 ≤ t.att.q c ∧ t.att.q c ≤ 1073741824

theorem pkN_bd {t : Tab} (hs : TSm t) (x k : Nat) : 0 ≤ pkN t x k ∧ pkN t x k ≤ 1073741824 := by
  induction k with
  | zero => exact hs.occ _
  | succ k ih =>
    rw [pkN]
    by_cases h : t.occ.getD ((x + (k + 1)) % t.occ.length) 0 > pkN t x k
    · rw [if_pos h]; exact hs.occ _
    · rw [if_neg h]; exact ih

theorem q_cell {t : Tab} {c : Nat} (hc : c < 3) : t.cells[2 + c]? = some (I (t.att.q c)) := by
  have : c = 0 ∨ c = 1 ∨ c = 2 := by omega
  rcases this with rfl | rfl | rfl <;> rfl

theorem ixa_r {k n b o i : Nat} {K : Value → World → Prop} {w : World} (hi : i < n) (hk : K (.pointer (some ⟨b, o + i * k, none⟩)) w) : ixa n k (.pointer (some ⟨b, o, none⟩)) (I i) K w := by
  refine ⟨⟨by omega, by omega⟩, ?_⟩
  have ei : ((i : Int)).toNat = i := by omega
  simp only [ei, add_mk]
  exact hk

theorem fits_ok {w : World} {tb o : Nat} {t : Tab} {K : Value → World → Prop} {s n : Int} {c : Nat} (h : TabAt w tb o t) (ht : TOk t) (hs : TSm t) (h0 : 0 ≤ s + (t.att.dwell - 1)) (h1 : s ≤ 1099511627776) (hc : c < 3)
    (hK : ∀ w', Kp (fun _ => False) w w' → K (I (fitsF t s c n)) w') : cl Try.prog 67 #[.pointer (some ⟨tb, o, none⟩), I s, I c, I n] K w := by
  have c1 := ht.c1
  have c2 := ht.c2
  apply c67
  unfold s67_p5 s67_p4 s67_p4_d
  simp only [e_fd, e_nck, e_pkt, e_pkf, e_gdtt, e_gdtf, e_gdft, e_gdff, e_ift, e_iff, e_not, e_ln, e_lnT, e_cp, e_cvi, e_ex20, e_ex21, e_ex30, e_ex31, e_ex32, e_add, e_sub, e_mul, e_quo, e_rem, e_and, e_or, e_xor, e_shl, e_shr, e_eql, e_neq, e_lss, e_leq, e_gtr, e_geq, e_beq, e_bne, e_peq1, e_peq2, e_pne1, e_pne2, e_zeq1, e_zeq2, e_zne1, e_zne2, e_feq1, e_fne1, e_feq2, e_fne2, e_seq, e_sne, e_ta1, e_ta2, Nat.zero_add, Nat.add_zero, Bool.not_true, Bool.not_false]
  have hd := h.kp (kp_drw)
  refine hd.fld0 rfl ?_
  refine peak_ok hd ht h0 h1 fun w1 hb1 => ⟨hb1.below', ?_⟩
  have hp := pkN_bd hs (s + (t.att.dwell - 1)).toNat (t.att.dwell - 1).toNat
  simp only [e_sub]
  rw [wrap64_id (by omega) (by omega)]
  refine ⟨hb1.below', ?_⟩
  simp only [e_fd, e_nck, e_pkt, e_pkf, e_gdtt, e_gdtf, e_gdft, e_gdff, e_ift, e_iff, e_not, e_ln, e_lnT, e_cp, e_cvi, e_ex20, e_ex21, e_ex30, e_ex31, e_ex32, e_add, e_sub, e_mul, e_quo, e_rem, e_and, e_or, e_xor, e_shl, e_shr, e_eql, e_neq, e_lss, e_leq, e_gtr, e_geq, e_beq, e_bne, e_peq1, e_peq2, e_pne1, e_pne2, e_zeq1, e_zeq2, e_zne1, e_zne2, e_feq1, e_fne1, e_feq2, e_fne2, e_seq, e_sne, e_ta1, e_ta2, Nat.zero_add, Nat.add_zero, Bool.not_true, Bool.not_false]
  unfold fitsF at hK
  by_cases hf : t.att.cap - pkN t (s + (t.att.dwell - 1)).toNat (t.att.dwell - 1).toNat < n
  · rw [if_pos hf] at hK
    unfold s67_p3
    simp only [hf, decide_true, e_fd, e_nck, e_pkt, e_pkf, e_gdtt, e_gdtf, e_gdft, e_gdff, e_ift, e_iff, e_not, e_ln, e_lnT, e_cp, e_cvi, e_ex20, e_ex21, e_ex30, e_ex31, e_ex32, e_add, e_sub, e_mul, e_quo, e_rem, e_and, e_or, e_xor, e_shl, e_shr, e_eql, e_neq, e_lss, e_leq, e_gtr, e_geq, e_beq, e_bne, e_peq1, e_peq2, e_pne1, e_pne2, e_zeq1, e_zeq2, e_zne1, e_zne2, e_feq1, e_fne1, e_feq2, e_fne2, e_seq, e_sne, e_ta1, e_ta2, Nat.zero_add, Nat.add_zero, Bool.not_true, Bool.not_false]
    exact hK w1 (kp_drw.trans hb1)
  rw [if_neg hf] at hK
  unfold s67_p3
  simp only [hf, decide_false, e_fd, e_nck, e_pkt, e_pkf, e_gdtt, e_gdtf, e_gdft, e_gdff, e_ift, e_iff, e_not, e_ln, e_lnT, e_cp, e_cvi, e_ex20, e_ex21, e_ex30, e_ex31, e_ex32, e_add, e_sub, e_mul, e_quo, e_rem, e_and, e_or, e_xor, e_shl, e_shr, e_eql, e_neq, e_lss, e_leq, e_gtr, e_geq, e_beq, e_bne, e_peq1, e_peq2, e_pne1, e_pne2, e_zeq1, e_zeq2, e_zne1, e_zne2, e_feq1, e_fne1, e_feq2, e_fne2, e_seq, e_sne, e_ta1, e_ta2, Nat.zero_add, Nat.add_zero, Bool.not_true, Bool.not_false]
  unfold s67_p2 s67_p2_d
  have h2 := h.kp ((kp_drw.trans hb1).trans kp_drw)
  simp only [e_fd, e_nck, e_pkt, e_pkf, e_gdtt, e_gdtf, e_gdft, e_gdff, e_ift, e_iff, e_not, e_ln, e_lnT, e_cp, e_cvi, e_ex20, e_ex21, e_ex30, e_ex31, e_ex32, e_add, e_sub, e_mul, e_quo, e_rem, e_and, e_or, e_xor, e_shl, e_shr, e_eql, e_neq, e_lss, e_leq, e_gtr, e_geq, e_beq, e_bne, e_peq1, e_peq2, e_pne1, e_pne2, e_zeq1, e_zeq2, e_zne1, e_zne2, e_feq1, e_fne1, e_feq2, e_fne2, e_seq, e_sne, e_ta1, e_ta2, Nat.zero_add, Nat.add_zero, Bool.not_true, Bool.not_false]
  refine ixa_r hc ?_
  rw [Nat.mul_one, Nat.add_assoc]
  refine h2.fld (by omega) (q_cell hc) ?_
  refine admitted_ok h2 ht h0 h1 hc fun w2 hb2 => ⟨hb2.below', ?_⟩
  have ha := hs.adm ((s + (t.att.dwell - 1)).toNat % t.occ.length * 3 + c)
  have hq := hs.q c
  simp only [e_sub]
  rw [wrap64_id (by omega) (by omega)]
  refine ⟨hb2.below', ?_⟩
  simp only [e_fd, e_nck, e_pkt, e_pkf, e_gdtt, e_gdtf, e_gdft, e_gdff, e_ift, e_iff, e_not, e_ln, e_lnT, e_cp, e_cvi, e_ex20, e_ex21, e_ex30, e_ex31, e_ex32, e_add, e_sub, e_mul, e_quo, e_rem, e_and, e_or, e_xor, e_shl, e_shr, e_eql, e_neq, e_lss, e_leq, e_gtr, e_geq, e_beq, e_bne, e_peq1, e_peq2, e_pne1, e_pne2, e_zeq1, e_zeq2, e_zne1, e_zne2, e_feq1, e_fne1, e_feq2, e_fne2, e_seq, e_sne, e_ta1, e_ta2, Nat.zero_add, Nat.add_zero, Bool.not_true, Bool.not_false]
  unfold s67_p1
  have kk : Kp (fun _ => False) w w2 := ((kp_drw.trans hb1).trans kp_drw).trans hb2
  by_cases hg : t.att.q c - t.adm.getD ((s + (t.att.dwell - 1)).toNat % t.occ.length * 3 + c) 0 < n
  · rw [if_pos hg] at hK
    simp only [hg, decide_true, e_fd, e_nck, e_pkt, e_pkf, e_gdtt, e_gdtf, e_gdft, e_gdff, e_ift, e_iff, e_not, e_ln, e_lnT, e_cp, e_cvi, e_ex20, e_ex21, e_ex30, e_ex31, e_ex32, e_add, e_sub, e_mul, e_quo, e_rem, e_and, e_or, e_xor, e_shl, e_shr, e_eql, e_neq, e_lss, e_leq, e_gtr, e_geq, e_beq, e_bne, e_peq1, e_peq2, e_pne1, e_pne2, e_zeq1, e_zeq2, e_zne1, e_zne2, e_feq1, e_fne1, e_feq2, e_fne2, e_seq, e_sne, e_ta1, e_ta2, Nat.zero_add, Nat.add_zero, Bool.not_true, Bool.not_false]
    exact hK w2 kk
  · rw [if_neg hg] at hK
    simp only [hg, decide_false, e_fd, e_nck, e_pkt, e_pkf, e_gdtt, e_gdtf, e_gdft, e_gdff, e_ift, e_iff, e_not, e_ln, e_lnT, e_cp, e_cvi, e_ex20, e_ex21, e_ex30, e_ex31, e_ex32, e_add, e_sub, e_mul, e_quo, e_rem, e_and, e_or, e_xor, e_shl, e_shr, e_eql, e_neq, e_lss, e_leq, e_gtr, e_geq, e_beq, e_bne, e_peq1, e_peq2, e_pne1, e_pne2, e_zeq1, e_zeq2, e_zne1, e_zne2, e_feq1, e_fne1, e_feq2, e_fne2, e_seq, e_sne, e_ta1, e_ta2, Nat.zero_add, Nat.add_zero, Bool.not_true, Bool.not_false]
    exact hK w2 kk
end Go.Proofs.Qxb6500897a
