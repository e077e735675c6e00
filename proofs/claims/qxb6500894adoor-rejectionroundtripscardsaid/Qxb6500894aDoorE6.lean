import Derived.Test.Qxb6500894aDoorE5
namespace Go.Proofs.Qxb6500894aDoor
open Go.Sh Go.RowKit
set_option linter.unusedVariables false
set_option linter.unusedSimpArgs false

section
variable {W w : World} {F b o p j : Nat} {cs : List Value} {v : Value} {xs : List Rc} {K : Value → World → Prop} {X : Value → World → Prop} {B1 B2 B3 : List Value → World → Prop}
theorem ldAt (h : Cells w b o cs) {u : Value} (hv : cs[j]? = some u) (hp : p = o + j) (hk : K u w) : ld1 (.pointer (some ⟨b, p, none⟩)) K w := by
  subst hp; exact h.ld1 hv hk

theorem stepS {s : ByteArray} {n : Int} (h : Cells w b o cs) (hv : cs[j]? = some (.string s)) (hp : p = o + j) (hz : s.size ≤ 140737488351232) (n0 : 0 ≤ n) (n1 : n ≤ 65536) (hbad : K (.bool false) w)
    (hgood : n + (s.size : Int) ≤ 65536 → X (I (n + (s.size : Int))) w) :
    ld1 (.pointer (some ⟨b, p, none⟩)) (fun t25 w => lnT t25 (fun t26 w => boI .add (I n) t26 (fun t27 w => boI .gtr t27 (.int .i64 65536) (fun t29 w => ifb t29 (K (.bool false) w) (X t27 w)) w) w) w) w := by
  refine ldAt h hv hp ?_
  try simp only [e_fd, e_nck, e_pkt, e_pkf, e_gdtt, e_gdtf, e_gdft, e_gdff, e_ift, e_iff, e_not, e_ln, e_lnT, e_cp, e_cvi, e_ex20, e_ex21, e_ex30, e_ex31, e_ex32, e_add, e_sub, e_mul, e_quo, e_rem, e_and, e_or, e_xor, e_shl, e_shr, e_eql, e_neq, e_lss, e_leq, e_gtr, e_geq, e_beq, e_bne, e_peq1, e_peq2, e_pne1, e_pne2, e_zeq1, e_zeq2, e_zne1, e_zne2, e_feq1, e_fne1, e_feq2, e_fne2, e_seq, e_sne, e_ta1, e_ta2, Nat.zero_add, Nat.add_zero, Bool.not_true, Bool.not_false]
  rw [wrap64_id (by omega) (by omega)]
  by_cases hgt : 65536 < n + (s.size : Int)
  · simp only [hgt, decide_true, e_fd, e_nck, e_pkt, e_pkf, e_gdtt, e_gdtf, e_gdft, e_gdff, e_ift, e_iff, e_not, e_ln, e_lnT, e_cp, e_cvi, e_ex20, e_ex21, e_ex30, e_ex31, e_ex32, e_add, e_sub, e_mul, e_quo, e_rem, e_and, e_or, e_xor, e_shl, e_shr, e_eql, e_neq, e_lss, e_leq, e_gtr, e_geq, e_beq, e_bne, e_peq1, e_peq2, e_pne1, e_pne2, e_zeq1, e_zeq2, e_zne1, e_zne2, e_feq1, e_fne1, e_feq2, e_fne2, e_seq, e_sne, e_ta1, e_ta2, Nat.zero_add, Nat.add_zero, Bool.not_true, Bool.not_false]; exact hbad
  · simp only [hgt, decide_false, e_fd, e_nck, e_pkt, e_pkf, e_gdtt, e_gdtf, e_gdft, e_gdff, e_ift, e_iff, e_not, e_ln, e_lnT, e_cp, e_cvi, e_ex20, e_ex21, e_ex30, e_ex31, e_ex32, e_add, e_sub, e_mul, e_quo, e_rem, e_and, e_or, e_xor, e_shl, e_shr, e_eql, e_neq, e_lss, e_leq, e_gtr, e_geq, e_beq, e_bne, e_peq1, e_peq2, e_pne1, e_pne2, e_zeq1, e_zeq2, e_zne1, e_zne2, e_feq1, e_fne1, e_feq2, e_fne2, e_seq, e_sne, e_ta1, e_ta2, Nat.zero_add, Nat.add_zero, Bool.not_true, Bool.not_false]; exact hgood (by omega)

theorem stepL {u : Value} {m : Nat} {n : Int} (h : Cells w b o cs) (hv : cs[j]? = some u) (hp : p = o + j) (hl : ∀ K : Value → World → Prop, K (I m) w → lnS u K w) (hz : m ≤ 140737488351232) (n0 : 0 ≤ n) (n1 : n ≤ 65536) (hbad : K (.bool false) w)
    (hgood : n + (m : Int) ≤ 65536 → X (I (n + (m : Int))) w) :
    ld1 (.pointer (some ⟨b, p, none⟩)) (fun t25 w => lnS t25 (fun t26 w => boI .add (I n) t26 (fun t27 w => boI .gtr t27 (.int .i64 65536) (fun t29 w => ifb t29 (K (.bool false) w) (X t27 w)) w) w) w) w := by
  refine ldAt h hv hp ?_
  refine hl _ ?_
  try simp only [e_fd, e_nck, e_pkt, e_pkf, e_gdtt, e_gdtf, e_gdft, e_gdff, e_ift, e_iff, e_not, e_ln, e_lnT, e_cp, e_cvi, e_ex20, e_ex21, e_ex30, e_ex31, e_ex32, e_add, e_sub, e_mul, e_quo, e_rem, e_and, e_or, e_xor, e_shl, e_shr, e_eql, e_neq, e_lss, e_leq, e_gtr, e_geq, e_beq, e_bne, e_peq1, e_peq2, e_pne1, e_pne2, e_zeq1, e_zeq2, e_zne1, e_zne2, e_feq1, e_fne1, e_feq2, e_fne2, e_seq, e_sne, e_ta1, e_ta2, Nat.zero_add, Nat.add_zero, Bool.not_true, Bool.not_false]
  rw [wrap64_id (by omega) (by omega)]
  by_cases hgt : 65536 < n + (m : Int)
  · simp only [hgt, decide_true, e_fd, e_nck, e_pkt, e_pkf, e_gdtt, e_gdtf, e_gdft, e_gdff, e_ift, e_iff, e_not, e_ln, e_lnT, e_cp, e_cvi, e_ex20, e_ex21, e_ex30, e_ex31, e_ex32, e_add, e_sub, e_mul, e_quo, e_rem, e_and, e_or, e_xor, e_shl, e_shr, e_eql, e_neq, e_lss, e_leq, e_gtr, e_geq, e_beq, e_bne, e_peq1, e_peq2, e_pne1, e_pne2, e_zeq1, e_zeq2, e_zne1, e_zne2, e_feq1, e_fne1, e_feq2, e_fne2, e_seq, e_sne, e_ta1, e_ta2, Nat.zero_add, Nat.add_zero, Bool.not_true, Bool.not_false]; exact hbad
  · simp only [hgt, decide_false, e_fd, e_nck, e_pkt, e_pkf, e_gdtt, e_gdtf, e_gdft, e_gdff, e_ift, e_iff, e_not, e_ln, e_lnT, e_cp, e_cvi, e_ex20, e_ex21, e_ex30, e_ex31, e_ex32, e_add, e_sub, e_mul, e_quo, e_rem, e_and, e_or, e_xor, e_shl, e_shr, e_eql, e_neq, e_lss, e_leq, e_gtr, e_geq, e_beq, e_bne, e_peq1, e_peq2, e_pne1, e_pne2, e_zeq1, e_zeq2, e_zne1, e_zne2, e_feq1, e_fne1, e_feq2, e_fne2, e_seq, e_sne, e_ta1, e_ta2, Nat.zero_add, Nat.add_zero, Bool.not_true, Bool.not_false]; exact hgood (by omega)

/-- the data of a step -/
theorem sm_data {i : Nat} {n : Int} (hs : Scr W F v xs) (hi : i < xs.length) (hb : Below W.heap.size W w) (n0 : 0 ≤ n) (n1 : n ≤ 65536) (hbad : K (.bool false) w)
    (hgood : ∀ n', 0 ≤ n' → n' ≤ 65536 → s10_p2 K B1 v (I n') (I i) w) : s10_p3 K B1 v (I n) (I i) w := by
  unfold s10_p3
  have hx := hs.1 _ (List.getElem_mem hi)
  refine hs.ix hi fun b o hc => ?_
  simp only [e_fd]
  refine stepL (hc.below hb) hx.c19 rfl (fun K hk => hk) hx.z19 n0 n1 hbad fun h => hgood _ (by omega) h

/-- the list of a value -/
theorem sm_list {i i2 f : Nat} {n : Int} {w0 : World} (hs : Scr W F v xs) (hF : F = f + 1) (hi : i < xs.length) (hi2 : i2 < xs[i].ps.length) (hb : Below W.heap.size W w0) (hw : Kp (fun _ => False) w0 w) (n0 : 0 ≤ n) (n1 : n ≤ 65536)
    (hcnt : ((vals W F (xs[i].ps.take i2)).length : Int) + ((xs[i].ps.length : Int) - i2) ≤ n)
    (hbad : ∀ w', Kp (fun _ => False) w0 w' → K (.bool false) w')
    (hgood : ∀ w' n', Kp (fun _ => False) w0 w' → 0 ≤ n' → n' ≤ 65536 → ((vals W F (xs[i].ps.take (i2 + 1))).length : Int) + ((xs[i].ps.length : Int) - (i2 + 1 : Nat)) ≤ n' → s10_p4 K B1 B2 v (I n') (I i) (I i2) w') :
    s10_p6 K B1 B2 v (I n) (I i) (I i2) (I 0) w := by
  subst hF
  have hx := hs.1 _ (List.getElem_mem hi)
  have hp := hx.pr
  have hv := (hx.pz _ (List.getElem_mem hi2)).2
  obtain ⟨hvs, hvl, hvk⟩ := hv
  have hvn := hvl.len
  have hlen : (vals W (f + 1) (xs[i].ps.take (i2 + 1))).length = (vals W (f + 1) (xs[i].ps.take i2)).length + (1 + ((kidsL W xs[i].ps[i2].2).flatMap (wl W f)).length) := by
    unfold vals
    rw [flat_take hi2, List.length_append]
    show _ + (wl W (f + 1) xs[i].ps[i2].2).length = _
    rw [wl, List.length_cons]
    omega
  refine ⟨fun m l w' => ∃ (k : Nat) (r : Int), k ≤ (kidsL W xs[i].ps[i2].2).length ∧ m = (kidsL W xs[i].ps[i2].2).length - k ∧ l = [v, I r, I i, I i2, I k] ∧ Kp (fun _ => False) w0 w' ∧ 0 ≤ r ∧ r ≤ 65536 ∧
      ((vals W (f + 1) (xs[i].ps.take i2)).length : Int) + ((xs[i].ps.length : Int) - i2) + ((((kidsL W xs[i].ps[i2].2).take k).flatMap (wl W f)).length : Int) ≤ r,
    (kidsL W xs[i].ps[i2].2).length, ⟨0, n, by omega, by omega, rfl, hw, n0, n1, by simpa using hcnt⟩, ?_⟩
  rintro m l w2 ⟨k, r, hk, hm, rfl, hk2, r0, r1, hc2⟩
  rw [s10_p6_Fe]
  have hb2 : Below W.heap.size W w2 := hb.trans (hk2.below hb.size (fun _ _ h => h))
  unfold s10_p5
  refine hs.ix hi fun b o hc => ?_
  simp only [e_fd]
  refine ldAt (hc.below hb2) hx.c17 rfl ?_
  refine hp.ix hi2 fun b1 o1 hc1 => ?_
  simp only [e_fd]
  refine ldAt (hc1.below hb2) (u := xs[i].ps[i2].2.lst) (j := 8) rfl rfl ?_
  refine hvl.ln ?_
  try simp only [e_fd, e_nck, e_pkt, e_pkf, e_gdtt, e_gdtf, e_gdft, e_gdff, e_ift, e_iff, e_not, e_ln, e_lnT, e_cp, e_cvi, e_ex20, e_ex21, e_ex30, e_ex31, e_ex32, e_add, e_sub, e_mul, e_quo, e_rem, e_and, e_or, e_xor, e_shl, e_shr, e_eql, e_neq, e_lss, e_leq, e_gtr, e_geq, e_beq, e_bne, e_peq1, e_peq2, e_pne1, e_pne2, e_zeq1, e_zeq2, e_zne1, e_zne2, e_feq1, e_fne1, e_feq2, e_fne2, e_seq, e_sne, e_ta1, e_ta2, Nat.zero_add, Nat.add_zero, Bool.not_true, Bool.not_false]
  by_cases hlt : k < (kidsL W xs[i].ps[i2].2).length
  · have hlt' : (k : Int) < ((kidsL W xs[i].ps[i2].2).length : Int) := by omega
    simp only [hlt', decide_true, e_fd, e_nck, e_pkt, e_pkf, e_gdtt, e_gdtf, e_gdft, e_gdff, e_ift, e_iff, e_not, e_ln, e_lnT, e_cp, e_cvi, e_ex20, e_ex21, e_ex30, e_ex31, e_ex32, e_add, e_sub, e_mul, e_quo, e_rem, e_and, e_or, e_xor, e_shl, e_shr, e_eql, e_neq, e_lss, e_leq, e_gtr, e_geq, e_beq, e_bne, e_peq1, e_peq2, e_pne1, e_pne2, e_zeq1, e_zeq2, e_zne1, e_zne2, e_feq1, e_fne1, e_feq2, e_fne2, e_seq, e_sne, e_ta1, e_ta2, Nat.zero_add, Nat.add_zero, Bool.not_true, Bool.not_false]
    refine hs.ix hi fun b o hc => ?_
    simp only [e_fd]
    refine ldAt (hc.below hb2) hx.c17 rfl ?_
    refine hp.ix hi2 fun b1 o1 hc1 => ?_
    simp only [e_fd]
    refine ldAt (hc1.below hb2) (u := xs[i].ps[i2].2.lst) (j := 8) rfl rfl ?_
    refine hvl.ix hlt fun b3 o3 hc3 => ?_
    refine (hc3.below hb2).ldn rfl ?_
    refine deep_ok f _ (hvk _ (List.getElem_mem hlt)) w2 r _ hb2 r0 r1 fun w3 r' hk3 hrr hcnt' => ?_
    try simp only [e_fd, e_nck, e_pkt, e_pkf, e_gdtt, e_gdtf, e_gdft, e_gdff, e_ift, e_iff, e_not, e_ln, e_lnT, e_cp, e_cvi, e_ex20, e_ex21, e_ex30, e_ex31, e_ex32, e_add, e_sub, e_mul, e_quo, e_rem, e_and, e_or, e_xor, e_shl, e_shr, e_eql, e_neq, e_lss, e_leq, e_gtr, e_geq, e_beq, e_bne, e_peq1, e_peq2, e_pne1, e_pne2, e_zeq1, e_zeq2, e_zne1, e_zne2, e_feq1, e_fne1, e_feq2, e_fne2, e_seq, e_sne, e_ta1, e_ta2, Nat.zero_add, Nat.add_zero, Bool.not_true, Bool.not_false]
    by_cases h4 : 65536 < r'
    · simp only [h4, decide_true, e_fd, e_nck, e_pkt, e_pkf, e_gdtt, e_gdtf, e_gdft, e_gdff, e_ift, e_iff, e_not, e_ln, e_lnT, e_cp, e_cvi, e_ex20, e_ex21, e_ex30, e_ex31, e_ex32, e_add, e_sub, e_mul, e_quo, e_rem, e_and, e_or, e_xor, e_shl, e_shr, e_eql, e_neq, e_lss, e_leq, e_gtr, e_geq, e_beq, e_bne, e_peq1, e_peq2, e_pne1, e_pne2, e_zeq1, e_zeq2, e_zne1, e_zne2, e_feq1, e_fne1, e_feq2, e_fne2, e_seq, e_sne, e_ta1, e_ta2, Nat.zero_add, Nat.add_zero, Bool.not_true, Bool.not_false]
      exact hbad w3 (hk2.trans hk3)
    · simp only [h4, decide_false, e_fd, e_nck, e_pkt, e_pkf, e_gdtt, e_gdtf, e_gdft, e_gdff, e_ift, e_iff, e_not, e_ln, e_lnT, e_cp, e_cvi, e_ex20, e_ex21, e_ex30, e_ex31, e_ex32, e_add, e_sub, e_mul, e_quo, e_rem, e_and, e_or, e_xor, e_shl, e_shr, e_eql, e_neq, e_lss, e_leq, e_gtr, e_geq, e_beq, e_bne, e_peq1, e_peq2, e_pne1, e_pne2, e_zeq1, e_zeq2, e_zne1, e_zne2, e_feq1, e_fne1, e_feq2, e_fne2, e_seq, e_sne, e_ta1, e_ta2, Nat.zero_add, Nat.add_zero, Bool.not_true, Bool.not_false]
      rw [wrap64_id (by omega) (by omega)]
      have := hcnt' (by omega)
      refine ⟨(kidsL W xs[i].ps[i2].2).length - (k + 1), by omega, k + 1, r', by omega, rfl, by simp, hk2.trans hk3, by omega, by omega, ?_⟩
      rw [flat_take hlt, List.length_append]
      omega
  · have hlt' : ¬ (k : Int) < ((kidsL W xs[i].ps[i2].2).length : Int) := by omega
    simp only [hlt', decide_false, e_fd, e_nck, e_pkt, e_pkf, e_gdtt, e_gdtf, e_gdft, e_gdff, e_ift, e_iff, e_not, e_ln, e_lnT, e_cp, e_cvi, e_ex20, e_ex21, e_ex30, e_ex31, e_ex32, e_add, e_sub, e_mul, e_quo, e_rem, e_and, e_or, e_xor, e_shl, e_shr, e_eql, e_neq, e_lss, e_leq, e_gtr, e_geq, e_beq, e_bne, e_peq1, e_peq2, e_pne1, e_pne2, e_zeq1, e_zeq2, e_zne1, e_zne2, e_feq1, e_fne1, e_feq2, e_fne2, e_seq, e_sne, e_ta1, e_ta2, Nat.zero_add, Nat.add_zero, Bool.not_true, Bool.not_false]
    have etk : (kidsL W xs[i].ps[i2].2).take k = kidsL W xs[i].ps[i2].2 := List.take_of_length_le (by omega)
    rw [etk] at hc2
    exact hgood w2 r hk2 r0 r1 (by omega)

/-- the properties -/
theorem sm_props {i : Nat} {n : Int} {w0 : World} (hs : Scr W F v xs) (hi : i < xs.length) (hb : Below W.heap.size W w0) (hw : Kp (fun _ => False) w0 w) (n0 : 0 ≤ n) (n1 : n ≤ 65536) (hcnt : (xs[i].ps.length : Int) ≤ n)
    (hbad : ∀ w', Kp (fun _ => False) w0 w' → K (.bool false) w')
    (hgood : ∀ w' n', Kp (fun _ => False) w0 w' → 0 ≤ n' → n' ≤ 65536 → (vals W F xs[i].ps).length ≤ 65536 → s10_p3 K B1 v (I n') (I i) w') :
    s10_p9 K B1 v (I n) (I i) (I 0) w := by
  have hx := hs.1 _ (List.getElem_mem hi)
  have hp := hx.pr
  have hpn := hp.len
  refine ⟨fun m l w' => ∃ (i2 : Nat) (r : Int), i2 ≤ xs[i].ps.length ∧ m = xs[i].ps.length - i2 ∧ l = [v, I r, I i, I i2] ∧ Kp (fun _ => False) w0 w' ∧ 0 ≤ r ∧ r ≤ 65536 ∧ ((vals W F (xs[i].ps.take i2)).length : Int) + ((xs[i].ps.length : Int) - i2) ≤ r,
    xs[i].ps.length, ⟨0, n, by omega, by omega, rfl, hw, n0, n1, by simpa [vals] using hcnt⟩, ?_⟩
  rintro m l w2 ⟨i2, r, hi2, hm, rfl, hk2, r0, r1, hc2⟩
  rw [s10_p9_Fe]
  have hb2 : Below W.heap.size W w2 := hb.trans (hk2.below hb.size (fun _ _ h => h))
  unfold s10_p8
  refine hs.ix hi fun b o hc => ?_
  simp only [e_fd]
  refine ldAt (hc.below hb2) hx.c17 rfl ?_
  refine hp.ln ?_
  try simp only [e_fd, e_nck, e_pkt, e_pkf, e_gdtt, e_gdtf, e_gdft, e_gdff, e_ift, e_iff, e_not, e_ln, e_lnT, e_cp, e_cvi, e_ex20, e_ex21, e_ex30, e_ex31, e_ex32, e_add, e_sub, e_mul, e_quo, e_rem, e_and, e_or, e_xor, e_shl, e_shr, e_eql, e_neq, e_lss, e_leq, e_gtr, e_geq, e_beq, e_bne, e_peq1, e_peq2, e_pne1, e_pne2, e_zeq1, e_zeq2, e_zne1, e_zne2, e_feq1, e_fne1, e_feq2, e_fne2, e_seq, e_sne, e_ta1, e_ta2, Nat.zero_add, Nat.add_zero, Bool.not_true, Bool.not_false]
  by_cases hlt : i2 < xs[i].ps.length
  · have hlt' : (i2 : Int) < (xs[i].ps.length : Int) := by omega
    simp only [hlt', decide_true, e_fd, e_nck, e_pkt, e_pkf, e_gdtt, e_gdtf, e_gdft, e_gdff, e_ift, e_iff, e_not, e_ln, e_lnT, e_cp, e_cvi, e_ex20, e_ex21, e_ex30, e_ex31, e_ex32, e_add, e_sub, e_mul, e_quo, e_rem, e_and, e_or, e_xor, e_shl, e_shr, e_eql, e_neq, e_lss, e_leq, e_gtr, e_geq, e_beq, e_bne, e_peq1, e_peq2, e_pne1, e_pne2, e_zeq1, e_zeq2, e_zne1, e_zne2, e_feq1, e_fne1, e_feq2, e_fne2, e_seq, e_sne, e_ta1, e_ta2, Nat.zero_add, Nat.add_zero, Bool.not_true, Bool.not_false]
    have hpz := hx.pz _ (List.getElem_mem hlt)
    obtain ⟨f, hF⟩ : ∃ f, F = f + 1 := by
      cases F with
      | zero => exact hpz.2.elim
      | succ f => exact ⟨f, rfl⟩
    have hvz : xs[i].ps[i2].2.s.size ≤ 140737488351232 ∧ LAt W xs[i].ps[i2].2.lst (kidsL W xs[i].ps[i2].2) := by
      have := hpz.2
      rw [hF] at this
      exact ⟨this.1, this.2.1⟩
    have hvn := hvz.2.len
    unfold s10_p7
    refine hs.ix hi fun b o hc => ?_
    simp only [e_fd]
    refine ldAt (hc.below hb2) hx.c17 rfl ?_
    refine hp.ix hlt fun b1 o1 hc1 => ?_
    simp only [e_fd]
    refine stepS (hc1.below hb2) (j := 0) rfl rfl hpz.1 r0 r1 (hbad _ hk2) fun g1 => ?_
    refine hs.ix hi fun b o hc => ?_
    simp only [e_fd]
    refine ldAt (hc.below hb2) hx.c17 rfl ?_
    refine hp.ix hlt fun b1 o1 hc1 => ?_
    simp only [e_fd]
    refine stepS (hc1.below hb2) (j := 6) rfl rfl hvz.1 (by omega) g1 (hbad _ hk2) fun g2 => ?_
    refine hs.ix hi fun b o hc => ?_
    simp only [e_fd]
    refine ldAt (hc.below hb2) hx.c17 rfl ?_
    refine hp.ix hlt fun b1 o1 hc1 => ?_
    simp only [e_fd]
    refine stepL (u := xs[i].ps[i2].2.lst) (hc1.below hb2) (j := 8) rfl rfl (fun K hk => hvz.2.ln hk) (by omega) (by omega) g2 (hbad _ hk2) fun g3 => ?_
    refine sm_list hs hF hi hlt hb hk2 (by omega) g3 (by omega) hbad fun w3 n3 hk3 c0 c1 c2 => ?_
    unfold s10_p4
    try simp only [e_fd, e_nck, e_pkt, e_pkf, e_gdtt, e_gdtf, e_gdft, e_gdff, e_ift, e_iff, e_not, e_ln, e_lnT, e_cp, e_cvi, e_ex20, e_ex21, e_ex30, e_ex31, e_ex32, e_add, e_sub, e_mul, e_quo, e_rem, e_and, e_or, e_xor, e_shl, e_shr, e_eql, e_neq, e_lss, e_leq, e_gtr, e_geq, e_beq, e_bne, e_peq1, e_peq2, e_pne1, e_pne2, e_zeq1, e_zeq2, e_zne1, e_zne2, e_feq1, e_fne1, e_feq2, e_fne2, e_seq, e_sne, e_ta1, e_ta2, Nat.zero_add, Nat.add_zero, Bool.not_true, Bool.not_false]
    rw [wrap64_id (by omega) (by omega)]
    exact ⟨xs[i].ps.length - (i2 + 1), by omega, i2 + 1, n3, by omega, rfl, by simp, hk3, c0, c1, c2⟩
  · have hlt' : ¬ (i2 : Int) < (xs[i].ps.length : Int) := by omega
    simp only [hlt', decide_false, e_fd, e_nck, e_pkt, e_pkf, e_gdtt, e_gdtf, e_gdft, e_gdff, e_ift, e_iff, e_not, e_ln, e_lnT, e_cp, e_cvi, e_ex20, e_ex21, e_ex30, e_ex31, e_ex32, e_add, e_sub, e_mul, e_quo, e_rem, e_and, e_or, e_xor, e_shl, e_shr, e_eql, e_neq, e_lss, e_leq, e_gtr, e_geq, e_beq, e_bne, e_peq1, e_peq2, e_pne1, e_pne2, e_zeq1, e_zeq2, e_zne1, e_zne2, e_feq1, e_fne1, e_feq2, e_fne2, e_seq, e_sne, e_ta1, e_ta2, Nat.zero_add, Nat.add_zero, Bool.not_true, Bool.not_false]
    rw [List.take_of_length_le (by omega)] at hc2
    exact hgood w2 r hk2 r0 r1 (by omega)

/-- behind the labels -/
theorem sm_mid {i : Nat} {n : Int} {w0 : World} (hs : Scr W F v xs) (hi : i < xs.length) (hb : Below W.heap.size W w0) (hw : Kp (fun _ => False) w0 w) (n0 : 0 ≤ n) (n1 : n ≤ 65536)
    (hbad : ∀ w', Kp (fun _ => False) w0 w' → K (.bool false) w')
    (hgood : ∀ w' n', Kp (fun _ => False) w0 w' → 0 ≤ n' → n' ≤ 65536 → (vals W F xs[i].ps).length ≤ 65536 → s10_p3 K B1 v (I n') (I i) w') :
    s10_p10 K B1 v (I n) (I i) w := by
  have hx := hs.1 _ (List.getElem_mem hi)
  have hb2 : Below W.heap.size W w := hb.trans (hw.below hb.size (fun _ _ h => h))
  have hpn := hx.pr.len
  unfold s10_p10
  refine hs.ix hi fun b o hc => ?_
  simp only [e_fd]
  refine stepS (hc.below hb2) hx.c12 rfl hx.z12 n0 n1 (hbad _ hw) fun g1 => ?_
  refine hs.ix hi fun b o hc => ?_
  simp only [e_fd]
  refine stepS (hc.below hb2) hx.c13 rfl hx.z13 (by omega) g1 (hbad _ hw) fun g2 => ?_
  refine hs.ix hi fun b o hc => ?_
  simp only [e_fd]
  refine stepS (hc.below hb2) hx.c14 rfl hx.z14 (by omega) g2 (hbad _ hw) fun g3 => ?_
  refine hs.ix hi fun b o hc => ?_
  simp only [e_fd]
  refine stepS (hc.below hb2) hx.c15 rfl hx.z15 (by omega) g3 (hbad _ hw) fun g4 => ?_
  refine hs.ix hi fun b o hc => ?_
  simp only [e_fd]
  refine stepS (hc.below hb2) hx.c16 rfl hx.z16 (by omega) g4 (hbad _ hw) fun g5 => ?_
  refine hs.ix hi fun b o hc => ?_
  simp only [e_fd]
  refine stepL (hc.below hb2) hx.c17 rfl (fun K hk => hx.pr.ln hk) hpn (by omega) g5 (hbad _ hw) fun g6 => ?_
  exact sm_props hs hi hb hw (by omega) g6 (by omega) hbad hgood

/-- the labels -/
theorem sm_labels {i : Nat} {n : Int} {w0 : World} (hs : Scr W F v xs) (hi : i < xs.length) (hb : Below W.heap.size W w0) (hw : Kp (fun _ => False) w0 w) (n0 : 0 ≤ n) (n1 : n ≤ 65536)
    (hbad : ∀ w', Kp (fun _ => False) w0 w' → K (.bool false) w')
    (hgood : ∀ w' n', Kp (fun _ => False) w0 w' → 0 ≤ n' → n' ≤ 65536 → (vals W F xs[i].ps).length ≤ 65536 → s10_p3 K B1 v (I n') (I i) w') :
    s10_p12 K B1 v (I n) (I i) (I 0) w := by
  have hx := hs.1 _ (List.getElem_mem hi)
  have hln := hx.lb.len
  refine ⟨fun m l w' => ∃ (i1 : Nat) (r : Int), i1 ≤ xs[i].lbs.length ∧ m = xs[i].lbs.length - i1 ∧ l = [v, I r, I i, I i1] ∧ Kp (fun _ => False) w0 w' ∧ 0 ≤ r ∧ r ≤ 65536,
    xs[i].lbs.length, ⟨0, n, by omega, by omega, rfl, hw, n0, n1⟩, ?_⟩
  rintro m l w2 ⟨i1, r, hi1, hm, rfl, hk2, r0, r1⟩
  rw [s10_p12_Fe]
  have hb2 : Below W.heap.size W w2 := hb.trans (hk2.below hb.size (fun _ _ h => h))
  unfold s10_p11
  refine hs.ix hi fun b o hc => ?_
  simp only [e_fd]
  refine ldAt (hc.below hb2) hx.c11 rfl ?_
  refine hx.lb.ln ?_
  try simp only [e_fd, e_nck, e_pkt, e_pkf, e_gdtt, e_gdtf, e_gdft, e_gdff, e_ift, e_iff, e_not, e_ln, e_lnT, e_cp, e_cvi, e_ex20, e_ex21, e_ex30, e_ex31, e_ex32, e_add, e_sub, e_mul, e_quo, e_rem, e_and, e_or, e_xor, e_shl, e_shr, e_eql, e_neq, e_lss, e_leq, e_gtr, e_geq, e_beq, e_bne, e_peq1, e_peq2, e_pne1, e_pne2, e_zeq1, e_zeq2, e_zne1, e_zne2, e_feq1, e_fne1, e_feq2, e_fne2, e_seq, e_sne, e_ta1, e_ta2, Nat.zero_add, Nat.add_zero, Bool.not_true, Bool.not_false]
  by_cases hlt : i1 < xs[i].lbs.length
  · have hlt' : (i1 : Int) < (xs[i].lbs.length : Int) := by omega
    simp only [hlt', decide_true, e_fd, e_nck, e_pkt, e_pkf, e_gdtt, e_gdtf, e_gdft, e_gdff, e_ift, e_iff, e_not, e_ln, e_lnT, e_cp, e_cvi, e_ex20, e_ex21, e_ex30, e_ex31, e_ex32, e_add, e_sub, e_mul, e_quo, e_rem, e_and, e_or, e_xor, e_shl, e_shr, e_eql, e_neq, e_lss, e_leq, e_gtr, e_geq, e_beq, e_bne, e_peq1, e_peq2, e_pne1, e_pne2, e_zeq1, e_zeq2, e_zne1, e_zne2, e_feq1, e_fne1, e_feq2, e_fne2, e_seq, e_sne, e_ta1, e_ta2, Nat.zero_add, Nat.add_zero, Bool.not_true, Bool.not_false]
    refine hs.ix hi fun b o hc => ?_
    simp only [e_fd]
    refine ldAt (hc.below hb2) hx.c11 rfl ?_
    refine hx.lb.ix hlt fun b1 o1 hc1 hz1 => ?_
    refine stepS (hc1.below hb2) (j := 0) rfl rfl hz1 r0 r1 (hbad _ hk2) fun g1 => ?_
    try simp only [e_fd, e_nck, e_pkt, e_pkf, e_gdtt, e_gdtf, e_gdft, e_gdff, e_ift, e_iff, e_not, e_ln, e_lnT, e_cp, e_cvi, e_ex20, e_ex21, e_ex30, e_ex31, e_ex32, e_add, e_sub, e_mul, e_quo, e_rem, e_and, e_or, e_xor, e_shl, e_shr, e_eql, e_neq, e_lss, e_leq, e_gtr, e_geq, e_beq, e_bne, e_peq1, e_peq2, e_pne1, e_pne2, e_zeq1, e_zeq2, e_zne1, e_zne2, e_feq1, e_fne1, e_feq2, e_fne2, e_seq, e_sne, e_ta1, e_ta2, Nat.zero_add, Nat.add_zero, Bool.not_true, Bool.not_false]
    rw [wrap64_id (by omega) (by omega)]
    exact ⟨xs[i].lbs.length - (i1 + 1), by omega, i1 + 1, _, by omega, rfl, by simp, hk2, by omega, g1⟩
  · have hlt' : ¬ (i1 : Int) < (xs[i].lbs.length : Int) := by omega
    simp only [hlt', decide_false, e_fd, e_nck, e_pkt, e_pkf, e_gdtt, e_gdtf, e_gdft, e_gdff, e_ift, e_iff, e_not, e_ln, e_lnT, e_cp, e_cvi, e_ex20, e_ex21, e_ex30, e_ex31, e_ex32, e_add, e_sub, e_mul, e_quo, e_rem, e_and, e_or, e_xor, e_shl, e_shr, e_eql, e_neq, e_lss, e_leq, e_gtr, e_geq, e_beq, e_bne, e_peq1, e_peq2, e_pne1, e_pne2, e_zeq1, e_zeq2, e_zne1, e_zne2, e_feq1, e_fne1, e_feq2, e_fne2, e_seq, e_sne, e_ta1, e_ta2, Nat.zero_add, Nat.add_zero, Bool.not_true, Bool.not_false]
    exact sm_mid hs hi hb hk2 r0 r1 hbad hgood

theorem small_ok (hs : Scr W F v xs) (hb : Below W.heap.size W w) (hK : ∀ w' r, Kp (fun _ => False) w w' → (r = true → ∀ x ∈ xs, (vals W F x.ps).length ≤ 65536) → K (.bool r) w') : cl Tryd.prog 10 #[v] K w := by
  have hxn := hs.len
  apply c10
  unfold s10_p16
  refine hs.ln ?_
  try simp only [e_fd, e_nck, e_pkt, e_pkf, e_gdtt, e_gdtf, e_gdft, e_gdff, e_ift, e_iff, e_not, e_ln, e_lnT, e_cp, e_cvi, e_ex20, e_ex21, e_ex30, e_ex31, e_ex32, e_add, e_sub, e_mul, e_quo, e_rem, e_and, e_or, e_xor, e_shl, e_shr, e_eql, e_neq, e_lss, e_leq, e_gtr, e_geq, e_beq, e_bne, e_peq1, e_peq2, e_pne1, e_pne2, e_zeq1, e_zeq2, e_zne1, e_zne2, e_feq1, e_fne1, e_feq2, e_fne2, e_seq, e_sne, e_ta1, e_ta2, Nat.zero_add, Nat.add_zero, Bool.not_true, Bool.not_false]
  by_cases h0 : 65536 < (xs.length : Int)
  · simp only [h0, decide_true, e_fd, e_nck, e_pkt, e_pkf, e_gdtt, e_gdtf, e_gdft, e_gdff, e_ift, e_iff, e_not, e_ln, e_lnT, e_cp, e_cvi, e_ex20, e_ex21, e_ex30, e_ex31, e_ex32, e_add, e_sub, e_mul, e_quo, e_rem, e_and, e_or, e_xor, e_shl, e_shr, e_eql, e_neq, e_lss, e_leq, e_gtr, e_geq, e_beq, e_bne, e_peq1, e_peq2, e_pne1, e_pne2, e_zeq1, e_zeq2, e_zne1, e_zne2, e_feq1, e_fne1, e_feq2, e_fne2, e_seq, e_sne, e_ta1, e_ta2, Nat.zero_add, Nat.add_zero, Bool.not_true, Bool.not_false]
    exact hK w false (Kp.refl _ _) (by simp)
  · simp only [h0, decide_false, e_fd, e_nck, e_pkt, e_pkf, e_gdtt, e_gdtf, e_gdft, e_gdff, e_ift, e_iff, e_not, e_ln, e_lnT, e_cp, e_cvi, e_ex20, e_ex21, e_ex30, e_ex31, e_ex32, e_add, e_sub, e_mul, e_quo, e_rem, e_and, e_or, e_xor, e_shl, e_shr, e_eql, e_neq, e_lss, e_leq, e_gtr, e_geq, e_beq, e_bne, e_peq1, e_peq2, e_pne1, e_pne2, e_zeq1, e_zeq2, e_zne1, e_zne2, e_feq1, e_fne1, e_feq2, e_fne2, e_seq, e_sne, e_ta1, e_ta2, Nat.zero_add, Nat.add_zero, Bool.not_true, Bool.not_false]
    refine ⟨fun m l w' => ∃ (i : Nat) (r : Int), i ≤ xs.length ∧ m = xs.length - i ∧ l = [v, I r, I i] ∧ Kp (fun _ => False) w w' ∧ 0 ≤ r ∧ r ≤ 65536 ∧ ∀ k (h : k < xs.length), k < i → (vals W F xs[k].ps).length ≤ 65536,
      xs.length, ⟨0, _, by omega, by omega, rfl, Kp.refl _ _, by omega, by omega, fun k _ hk => by omega⟩, ?_⟩
    rintro m l w2 ⟨i, r, hi, hm, rfl, hk2, r0, r1, hall⟩
    rw [s10_p15_Fe]
    have hb2 : Below W.heap.size W w2 := hb.trans (hk2.below hb.size (fun _ _ h => h))
    unfold s10_p14
    refine hs.ln ?_
    try simp only [e_fd, e_nck, e_pkt, e_pkf, e_gdtt, e_gdtf, e_gdft, e_gdff, e_ift, e_iff, e_not, e_ln, e_lnT, e_cp, e_cvi, e_ex20, e_ex21, e_ex30, e_ex31, e_ex32, e_add, e_sub, e_mul, e_quo, e_rem, e_and, e_or, e_xor, e_shl, e_shr, e_eql, e_neq, e_lss, e_leq, e_gtr, e_geq, e_beq, e_bne, e_peq1, e_peq2, e_pne1, e_pne2, e_zeq1, e_zeq2, e_zne1, e_zne2, e_feq1, e_fne1, e_feq2, e_fne2, e_seq, e_sne, e_ta1, e_ta2, Nat.zero_add, Nat.add_zero, Bool.not_true, Bool.not_false]
    have bad : ∀ w', Kp (fun _ => False) w2 w' → K (.bool false) w' := fun w' hw' => hK w' false (hk2.trans hw') (by simp)
    by_cases hlt : i < xs.length
    · have hlt' : (i : Int) < (xs.length : Int) := by omega
      simp only [hlt', decide_true, e_fd, e_nck, e_pkt, e_pkf, e_gdtt, e_gdtf, e_gdft, e_gdff, e_ift, e_iff, e_not, e_ln, e_lnT, e_cp, e_cvi, e_ex20, e_ex21, e_ex30, e_ex31, e_ex32, e_add, e_sub, e_mul, e_quo, e_rem, e_and, e_or, e_xor, e_shl, e_shr, e_eql, e_neq, e_lss, e_leq, e_gtr, e_geq, e_beq, e_bne, e_peq1, e_peq2, e_pne1, e_pne2, e_zeq1, e_zeq2, e_zne1, e_zne2, e_feq1, e_fne1, e_feq2, e_fne2, e_seq, e_sne, e_ta1, e_ta2, Nat.zero_add, Nat.add_zero, Bool.not_true, Bool.not_false]
      have hx := hs.1 _ (List.getElem_mem hlt)
      have hln := hx.lb.len
      unfold s10_p13
      refine hs.ix hlt fun b o hc => ?_
      simp only [e_fd]
      refine stepS (hc.below hb2) hx.c9 rfl hx.z9 r0 r1 (bad _ (Kp.refl _ _)) fun g1 => ?_
      refine hs.ix hlt fun b o hc => ?_
      simp only [e_fd]
      refine stepS (hc.below hb2) hx.c10 rfl hx.z10 (by omega) g1 (bad _ (Kp.refl _ _)) fun g2 => ?_
      refine hs.ix hlt fun b o hc => ?_
      simp only [e_fd]
      refine stepL (hc.below hb2) hx.c11 rfl (fun K hk => hx.lb.ln hk) hln (by omega) g2 (bad _ (Kp.refl _ _)) fun g3 => ?_
      refine sm_labels hs hlt hb2 (Kp.refl _ _) (by omega) g3 bad fun w3 n3 hk3 c0 c1 c2 => ?_
      have hb3 : Below W.heap.size W w3 := hb2.trans (hk3.below hb2.size (fun _ _ h => h))
      refine sm_data hs hlt hb3 c0 c1 (bad _ hk3) fun n4 d0 d1 => ?_
      unfold s10_p2
      try simp only [e_fd, e_nck, e_pkt, e_pkf, e_gdtt, e_gdtf, e_gdft, e_gdff, e_ift, e_iff, e_not, e_ln, e_lnT, e_cp, e_cvi, e_ex20, e_ex21, e_ex30, e_ex31, e_ex32, e_add, e_sub, e_mul, e_quo, e_rem, e_and, e_or, e_xor, e_shl, e_shr, e_eql, e_neq, e_lss, e_leq, e_gtr, e_geq, e_beq, e_bne, e_peq1, e_peq2, e_pne1, e_pne2, e_zeq1, e_zeq2, e_zne1, e_zne2, e_feq1, e_fne1, e_feq2, e_fne2, e_seq, e_sne, e_ta1, e_ta2, Nat.zero_add, Nat.add_zero, Bool.not_true, Bool.not_false]
      rw [wrap64_id (by omega) (by omega)]
      refine ⟨xs.length - (i + 1), by omega, i + 1, n4, by omega, rfl, by simp, hk2.trans hk3, d0, d1, fun k hk hki => ?_⟩
      by_cases e : k = i
      · subst e; exact c2
      · exact hall k hk (by omega)
    · have hlt' : ¬ (i : Int) < (xs.length : Int) := by omega
      simp only [hlt', decide_false, e_fd, e_nck, e_pkt, e_pkf, e_gdtt, e_gdtf, e_gdft, e_gdff, e_ift, e_iff, e_not, e_ln, e_lnT, e_cp, e_cvi, e_ex20, e_ex21, e_ex30, e_ex31, e_ex32, e_add, e_sub, e_mul, e_quo, e_rem, e_and, e_or, e_xor, e_shl, e_shr, e_eql, e_neq, e_lss, e_leq, e_gtr, e_geq, e_beq, e_bne, e_peq1, e_peq2, e_pne1, e_pne2, e_zeq1, e_zeq2, e_zne1, e_zne2, e_feq1, e_fne1, e_feq2, e_fne2, e_seq, e_sne, e_ta1, e_ta2, Nat.zero_add, Nat.add_zero, Bool.not_true, Bool.not_false]
      unfold s10_p1
      refine hK w2 true hk2 fun _ x hx => ?_
      obtain ⟨k, hk, rfl⟩ := List.getElem_of_mem hx
      exact hall k hk (by omega)
end
end Go.Proofs.Qxb6500894aDoor
