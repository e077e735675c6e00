import Derived.Test.Qxb6500893aDoorA26
namespace Go.Proofs.Qxb6500893aDoor
open Go.Sh Go.RowKit
set_option linter.unusedVariables false
set_option linter.unusedSimpArgs false

section
variable {W w w' : World} {v : Value} {ops : List Op} {K : Value → World → Prop} {B1 : List Value → World → Prop} {s : Ws} {m : Wm} {F : Nat → List Nat} {ab tb pb : Nat} {M : Am} {A : Ar} {T : Tb}
def usedP (ws : Nat → Nat) (T : Tb) (i : Nat) : Nat := ((T.ps.take i).map (fun sh => ws (sh.ctl + 2) * sh.bw)).sum
def allP (T : Tb) (i : Nat) : Nat := ((T.ps.take i).map (fun sh => sh.n * sh.bw)).sum
theorem takeS {α : Type} (f : α → Nat) (l : List α) {i : Nat} (hi : i < l.length) : ((l.take (i + 1)).map f).sum = ((l.take i).map f).sum + f l[i] := by
  rw [List.take_add_one, List.getElem?_eq_getElem hi, List.map_append, List.sum_append]; simp
theorem shN (hok : T.Ok) {i : Nat} (hi : i < T.ps.length) : T.ps[i].n * T.ps[i].bw ≤ 4096 := by
  have h := (hok.sh _ (List.getElem_mem hi)).1
  have := h.fin; have := h.lim
  omega
theorem totals_ok (ha : Arn w ab M A) (ht : Tbl w tb pb ab T) (ok : T.Ok) (hP : ∀ i (hi : i < T.ps.length), PoolOk A.ws T.ps[i] (F i))
    (hK : ∀ w' k all, Arn w' ab M (tk A k) → StA w w' ab M M → K (.tuple #[U64 (usedS A.ws T), U64 all, I 0]) w') : cl Tryd.prog 26 #[P tb 0] K w := by
  have hlen := ok.len
  apply c26
  unfold s26_p4
  try simp only [e_fd, e_nck, e_pkt, e_pkf, e_gdtt, e_gdtf, e_gdft, e_gdff, e_ift, e_iff, e_not, e_ln, e_lnT, e_cp, e_cvi, e_ex20, e_ex21, e_ex30, e_ex31, e_ex32, e_add, e_sub, e_mul, e_quo, e_rem, e_and, e_or, e_xor, e_shl, e_shr, e_eql, e_neq, e_lss, e_leq, e_gtr, e_geq, e_beq, e_bne, e_peq1, e_peq2, e_pne1, e_pne2, e_zeq1, e_zeq2, e_zne1, e_zne2, e_feq1, e_fne1, e_feq2, e_fne2, e_seq, e_sne, e_ta1, e_ta2, Nat.zero_add, Nat.add_zero, Bool.not_true, Bool.not_false]
  refine ld1_r ht.row rfl ?_
  try simp only [e_fd, e_nck, e_pkt, e_pkf, e_gdtt, e_gdtf, e_gdft, e_gdff, e_ift, e_iff, e_not, e_ln, e_lnT, e_cp, e_cvi, e_ex20, e_ex21, e_ex30, e_ex31, e_ex32, e_add, e_sub, e_mul, e_quo, e_rem, e_and, e_or, e_xor, e_shl, e_shr, e_eql, e_neq, e_lss, e_leq, e_gtr, e_geq, e_beq, e_bne, e_peq1, e_peq2, e_pne1, e_pne2, e_zeq1, e_zeq2, e_zne1, e_zne2, e_feq1, e_fne1, e_feq2, e_fne2, e_seq, e_sne, e_ta1, e_ta2, Nat.zero_add, Nat.add_zero, Bool.not_true, Bool.not_false]
  unfold s26_p3
  refine ⟨fun n l w' => ∃ (i k : Nat), i ≤ T.ps.length ∧ n + i = T.ps.length ∧ l = [P tb 0, U64 (usedP A.ws T i), U64 (allP T i), I T.ps.length, I i] ∧ Arn w' ab M (tk A k) ∧ StA w w' ab M M ∧ usedP A.ws T i ≤ 4096 * i ∧ allP T i ≤ 4096 * i,
    T.ps.length, ⟨0, 0, Nat.zero_le _, rfl, rfl, by unfold tk; rw [tick_0 ha.st]; exact ha, StA.refl _ _ _, Nat.le_refl _, Nat.le_refl _⟩, ?_⟩
  rintro n l w1 ⟨i, k, hil, hn, rfl, a1, st1, b1, b2⟩
  rw [s26_p3_Fe]
  unfold s26_p2
  try simp only [e_fd, e_nck, e_pkt, e_pkf, e_gdtt, e_gdtf, e_gdft, e_gdff, e_ift, e_iff, e_not, e_ln, e_lnT, e_cp, e_cvi, e_ex20, e_ex21, e_ex30, e_ex31, e_ex32, e_add, e_sub, e_mul, e_quo, e_rem, e_and, e_or, e_xor, e_shl, e_shr, e_eql, e_neq, e_lss, e_leq, e_gtr, e_geq, e_beq, e_bne, e_peq1, e_peq2, e_pne1, e_pne2, e_zeq1, e_zeq2, e_zne1, e_zne2, e_feq1, e_fne1, e_feq2, e_fne2, e_seq, e_sne, e_ta1, e_ta2, Nat.zero_add, Nat.add_zero, Bool.not_true, Bool.not_false]
  by_cases hlt : i < T.ps.length
  · have hlt' : (i : Int) < ((T.ps.length : Nat) : Int) := by omega
    simp only [hlt', decide_true, e_fd, e_nck, e_pkt, e_pkf, e_gdtt, e_gdtf, e_gdft, e_gdff, e_ift, e_iff, e_not, e_ln, e_lnT, e_cp, e_cvi, e_ex20, e_ex21, e_ex30, e_ex31, e_ex32, e_add, e_sub, e_mul, e_quo, e_rem, e_and, e_or, e_xor, e_shl, e_shr, e_eql, e_neq, e_lss, e_leq, e_gtr, e_geq, e_beq, e_bne, e_peq1, e_peq2, e_pne1, e_pne2, e_zeq1, e_zeq2, e_zne1, e_zne2, e_feq1, e_fne1, e_feq2, e_fne2, e_seq, e_sne, e_ta1, e_ta2, Nat.zero_add, Nat.add_zero, Bool.not_true, Bool.not_false]
    have t1 := ht.stA ha st1
    refine stats_ok a1 t1 ok (fun hn => absurd ⟨by omega, by omega⟩ hn) (fun i' hi' hid w2 a2 st2 => ?_)
    obtain rfl : i' = i := by omega
    have hPi := hP i' hi'
    have hu := hPi.used
    have hok := (ok.sh _ (List.getElem_mem hi')).1
    have hn2 := hok.n2
    have hbw2 := hok.bw2
    have hsN := shN ok hi'
    have ex : stF (tk A k) T.ps[i'] = ((A.ws (T.ps[i'].ctl + 2), T.ps[i'].n - A.ws (T.ps[i'].ctl + 2), A.ws (T.ps[i'].ctl + 3), A.ws (T.ps[i'].ctl + 4)), 0, ld (ld (ld (ld (tk A k))))) := by
      unfold stF
      have ew : (tk A k).ws = A.ws := rfl
      have p1 := hPi.pk1
      have p2 := hPi.pk2
      rw [ew, if_neg (by rw [hPi.sl]; exact fun q => q rfl), if_neg (by omega)]
    rw [ex] at a2 ⊢
    have ea : ld (ld (ld (ld (tk A k)))) = tk A (k + 4) := by
      unfold ld tk; simp only [tick_add]
    have a2' : Arn w2 ab M (tk A (k + 4)) := by rw [← ea]; exact a2
    try simp only [e_fd, e_nck, e_pkt, e_pkf, e_gdtt, e_gdtf, e_gdft, e_gdff, e_ift, e_iff, e_not, e_ln, e_lnT, e_cp, e_cvi, e_ex20, e_ex21, e_ex30, e_ex31, e_ex32, e_add, e_sub, e_mul, e_quo, e_rem, e_and, e_or, e_xor, e_shl, e_shr, e_eql, e_neq, e_lss, e_leq, e_gtr, e_geq, e_beq, e_bne, e_peq1, e_peq2, e_pne1, e_pne2, e_zeq1, e_zeq2, e_zne1, e_zne2, e_feq1, e_fne1, e_feq2, e_fne2, e_seq, e_sne, e_ta1, e_ta2, Nat.zero_add, Nat.add_zero, Bool.not_true, Bool.not_false]
    refine nw_r fun w3 r3 hk3 hz3 => ?_
    refine stn_r (cs := stV (A.ws (T.ps[i'].ctl + 2), T.ps[i'].n - A.ws (T.ps[i'].ctl + 2), A.ws (T.ps[i'].ctl + 3), A.ws (T.ps[i'].ctl + 4))) r3 rfl (show 0 + 4 ≤ 4 by decide) rfl fun w4 r4 hk4 hz4 => ?_
    have k24 : Kp (fun _ => False) w2 w4 := hk3.then hk4 (fun b hb (q : b = _) => by omega)
    have st4 : StA w w4 ab M M := (st1.trans st2).trans (StA.of0 k24)
    have a4 := a2'.kp' k24
    have t4 := ht.stA ha st4
    simp only [bne_self_eq_false, e_fd, e_nck, e_pkt, e_pkf, e_gdtt, e_gdtf, e_gdft, e_gdff, e_ift, e_iff, e_not, e_ln, e_lnT, e_cp, e_cvi, e_ex20, e_ex21, e_ex30, e_ex31, e_ex32, e_add, e_sub, e_mul, e_quo, e_rem, e_and, e_or, e_xor, e_shl, e_shr, e_eql, e_neq, e_lss, e_leq, e_gtr, e_geq, e_beq, e_bne, e_peq1, e_peq2, e_pne1, e_pne2, e_zeq1, e_zeq2, e_zne1, e_zne2, e_feq1, e_fne1, e_feq2, e_fne2, e_seq, e_sne, e_ta1, e_ta2, Nat.zero_add, Nat.add_zero, Bool.not_true, Bool.not_false]
    have ix : ∀ {R : Value → World → Prop} {w5 : World}, R (P pb (i' * 6)) w5 → ixs 6 (.slice (some ⟨pb, 0, none⟩) T.ps.length 8) (I (i' : Nat)) R w5 := by
      intro R w5 hR
      refine ⟨⟨by omega, by omega⟩, ?_⟩
      have e : ((i' : Int)).toNat = i' := by omega
      rw [e, add_mk, Nat.zero_add]
      exact hR
    refine ld1_r t4.row rfl ?_
    refine ix ?_
    have s4 := t4.at' hi'
    try simp only [e_fd, e_nck, e_pkt, e_pkf, e_gdtt, e_gdtf, e_gdft, e_gdff, e_ift, e_iff, e_not, e_ln, e_lnT, e_cp, e_cvi, e_ex20, e_ex21, e_ex30, e_ex31, e_ex32, e_add, e_sub, e_mul, e_quo, e_rem, e_and, e_or, e_xor, e_shl, e_shr, e_eql, e_neq, e_lss, e_leq, e_gtr, e_geq, e_beq, e_bne, e_peq1, e_peq2, e_pne1, e_pne2, e_zeq1, e_zeq2, e_zne1, e_zne2, e_feq1, e_fne1, e_feq2, e_fne2, e_seq, e_sne, e_ta1, e_ta2, Nat.zero_add, Nat.add_zero, Bool.not_true, Bool.not_false]
    refine s4.ld (k := 4) (by decide) rfl rfl ?_
    try simp only [e_fd, e_nck, e_pkt, e_pkf, e_gdtt, e_gdtf, e_gdft, e_gdff, e_ift, e_iff, e_not, e_ln, e_lnT, e_cp, e_cvi, e_ex20, e_ex21, e_ex30, e_ex31, e_ex32, e_add, e_sub, e_mul, e_quo, e_rem, e_and, e_or, e_xor, e_shl, e_shr, e_eql, e_neq, e_lss, e_leq, e_gtr, e_geq, e_beq, e_bne, e_peq1, e_peq2, e_pne1, e_pne2, e_zeq1, e_zeq2, e_zne1, e_zne2, e_feq1, e_fne1, e_feq2, e_fne2, e_seq, e_sne, e_ta1, e_ta2, Nat.zero_add, Nat.add_zero, Bool.not_true, Bool.not_false]
    refine ld1_r r4 (v := U32 (A.ws (T.ps[i'].ctl + 2))) rfl ?_
    try simp only [e_fd, e_nck, e_pkt, e_pkf, e_gdtt, e_gdtf, e_gdft, e_gdff, e_ift, e_iff, e_not, e_ln, e_lnT, e_cp, e_cvi, e_ex20, e_ex21, e_ex30, e_ex31, e_ex32, e_add, e_sub, e_mul, e_quo, e_rem, e_and, e_or, e_xor, e_shl, e_shr, e_eql, e_neq, e_lss, e_leq, e_gtr, e_geq, e_beq, e_bne, e_peq1, e_peq2, e_pne1, e_pne2, e_zeq1, e_zeq2, e_zne1, e_zne2, e_feq1, e_fne1, e_feq2, e_fne2, e_seq, e_sne, e_ta1, e_ta2, Nat.zero_add, Nat.add_zero, Bool.not_true, Bool.not_false]
    refine ld1_r t4.row rfl ?_
    refine ix ?_
    try simp only [e_fd, e_nck, e_pkt, e_pkf, e_gdtt, e_gdtf, e_gdft, e_gdff, e_ift, e_iff, e_not, e_ln, e_lnT, e_cp, e_cvi, e_ex20, e_ex21, e_ex30, e_ex31, e_ex32, e_add, e_sub, e_mul, e_quo, e_rem, e_and, e_or, e_xor, e_shl, e_shr, e_eql, e_neq, e_lss, e_leq, e_gtr, e_geq, e_beq, e_bne, e_peq1, e_peq2, e_pne1, e_pne2, e_zeq1, e_zeq2, e_zne1, e_zne2, e_feq1, e_fne1, e_feq2, e_fne2, e_seq, e_sne, e_ta1, e_ta2, Nat.zero_add, Nat.add_zero, Bool.not_true, Bool.not_false]
    refine s4.ld (k := 5) (by decide) rfl rfl ?_
    try simp only [e_fd, e_nck, e_pkt, e_pkf, e_gdtt, e_gdtf, e_gdft, e_gdff, e_ift, e_iff, e_not, e_ln, e_lnT, e_cp, e_cvi, e_ex20, e_ex21, e_ex30, e_ex31, e_ex32, e_add, e_sub, e_mul, e_quo, e_rem, e_and, e_or, e_xor, e_shl, e_shr, e_eql, e_neq, e_lss, e_leq, e_gtr, e_geq, e_beq, e_bne, e_peq1, e_peq2, e_pne1, e_pne2, e_zeq1, e_zeq2, e_zne1, e_zne2, e_feq1, e_fne1, e_feq2, e_fne2, e_seq, e_sne, e_ta1, e_ta2, Nat.zero_add, Nat.add_zero, Bool.not_true, Bool.not_false]
    have hum : A.ws (T.ps[i'].ctl + 2) * T.ps[i'].bw ≤ T.ps[i'].n * T.ps[i'].bw := Nat.mul_le_mul_right _ (by omega)
    rw [w64 (show T.ps[i'].bw < 18446744073709551616 by omega), w64 (show A.ws (T.ps[i'].ctl + 2) < 18446744073709551616 by omega), w64 (show T.ps[i'].n < 18446744073709551616 by omega)]
    rw [show ((A.ws (T.ps[i'].ctl + 2) : Nat) : Int) * ((T.ps[i'].bw : Nat) : Int) = ((A.ws (T.ps[i'].ctl + 2) * T.ps[i'].bw : Nat) : Int) from (Int.natCast_mul _ _).symm, w64 (show A.ws (T.ps[i'].ctl + 2) * T.ps[i'].bw < 18446744073709551616 by omega)]
    rw [show ((T.ps[i'].n : Nat) : Int) * ((T.ps[i'].bw : Nat) : Int) = ((T.ps[i'].n * T.ps[i'].bw : Nat) : Int) from (Int.natCast_mul _ _).symm, w64 (show T.ps[i'].n * T.ps[i'].bw < 18446744073709551616 by omega)]
    have e1 : usedP A.ws T (i' + 1) = usedP A.ws T i' + A.ws (T.ps[i'].ctl + 2) * T.ps[i'].bw := takeS (fun (sh : Shp) => A.ws (sh.ctl + 2) * sh.bw) T.ps hi'
    have e2 : allP T (i' + 1) = allP T i' + T.ps[i'].n * T.ps[i'].bw := takeS (fun (sh : Shp) => sh.n * sh.bw) T.ps hi'
    rw [show ((usedP A.ws T i' : Nat) : Int) + ((A.ws (T.ps[i'].ctl + 2) * T.ps[i'].bw : Nat) : Int) = ((usedP A.ws T (i' + 1) : Nat) : Int) by rw [e1]; omega, w64 (by omega)]
    rw [show ((allP T i' : Nat) : Int) + ((T.ps[i'].n * T.ps[i'].bw : Nat) : Int) = ((allP T (i' + 1) : Nat) : Int) by rw [e2]; omega, w64 (by omega)]
    rw [wrap64_id (by omega) (by omega)]
    exact ⟨n - 1, by omega, i' + 1, k + 4, by omega, by omega, by simp, a4, st4, by omega, by omega⟩
  · have hlt' : ¬ (i : Int) < ((T.ps.length : Nat) : Int) := by omega
    simp only [hlt', decide_false, e_fd, e_nck, e_pkt, e_pkf, e_gdtt, e_gdtf, e_gdft, e_gdff, e_ift, e_iff, e_not, e_ln, e_lnT, e_cp, e_cvi, e_ex20, e_ex21, e_ex30, e_ex31, e_ex32, e_add, e_sub, e_mul, e_quo, e_rem, e_and, e_or, e_xor, e_shl, e_shr, e_eql, e_neq, e_lss, e_leq, e_gtr, e_geq, e_beq, e_bne, e_peq1, e_peq2, e_pne1, e_pne2, e_zeq1, e_zeq2, e_zne1, e_zne2, e_feq1, e_fne1, e_feq2, e_fne2, e_seq, e_sne, e_ta1, e_ta2, Nat.zero_add, Nat.add_zero, Bool.not_true, Bool.not_false]
    unfold s26_p1
    have ei : i = T.ps.length := by omega
    have e1 : usedP A.ws T i = usedS A.ws T := by unfold usedP usedS; rw [ei, List.take_length]
    rw [e1]
    exact hK w1 k _ a1 st1
theorem usedS_le (ok : T.Ok) {ws : Nat → Nat} (hP : ∀ i (hi : i < T.ps.length), PoolOk ws T.ps[i] (F i)) : usedS ws T ≤ 4096 * 8 := by
  have hlen := ok.len
  have h : ∀ i, i ≤ T.ps.length → usedP ws T i ≤ 4096 * i := by
    intro i
    induction i with
    | zero => intro _; exact Nat.le_refl _
    | succ i ih =>
      intro hi
      have hil : i < T.ps.length := by omega
      have e1 : usedP ws T (i + 1) = usedP ws T i + ws (T.ps[i].ctl + 2) * T.ps[i].bw := takeS (fun (sh : Shp) => ws (sh.ctl + 2) * sh.bw) T.ps hil
      have := ih (by omega)
      have hu := (hP i hil).used
      have hsN := shN ok hil
      have hum : ws (T.ps[i].ctl + 2) * T.ps[i].bw ≤ T.ps[i].n * T.ps[i].bw := Nat.mul_le_mul_right _ (by omega)
      omega
  have := h T.ps.length (Nat.le_refl _)
  have e : usedP ws T T.ps.length = usedS ws T := by unfold usedP usedS; rw [List.take_length]
  omega
theorem lenP_le (L : List Lb) (i : Nat) : lenS (L.take i) ≤ lenS L := by
  unfold lenS
  conv => rhs; rw [← List.take_append_drop i L]
  rw [List.map_append, List.sum_append]
  omega
/-- the sum of the words of the blocks in use -/
theorem law9_sum {j : Nat} {t16 t17 : Value} (h : LSt W w m s) (hI : PInv s.A.ws s.T s.L F) (hL : s.L.length ≤ 900000) (hj : j < 1000000)
    (next : ∀ w', LSt W w' m s → B1 [P m.wdb 0, t16, t17, I (j + 1 : Nat)] w') :
    s9_p5 K B1 (P m.wdb 0) (U64 (usedS s.A.ws s.T)) (I 0) (U64 0) t16 t17 (I j) m.lv (I s.L.length) (I 0) w := by
  have hus := usedS_le h.wd.ok hI.pool
  have hsum := hI.sum
  unfold s9_p5
  refine ⟨fun n l w' => ∃ (i : Nat), i ≤ s.L.length ∧ n + i = s.L.length ∧ l = [P m.wdb 0, U64 (usedS s.A.ws s.T), I 0, U64 (lenS (s.L.take i)), t16, t17, I j, m.lv, I s.L.length, I i] ∧ LSt W w' m s,
    s.L.length, ⟨0, Nat.zero_le _, rfl, rfl, h⟩, ?_⟩
  rintro n l w1 ⟨i, hil, hn, rfl, h1⟩
  rw [s9_p5_Fe]
  unfold s9_p4
  try simp only [e_fd, e_nck, e_pkt, e_pkf, e_gdtt, e_gdtf, e_gdft, e_gdff, e_ift, e_iff, e_not, e_ln, e_lnT, e_cp, e_cvi, e_ex20, e_ex21, e_ex30, e_ex31, e_ex32, e_add, e_sub, e_mul, e_quo, e_rem, e_and, e_or, e_xor, e_shl, e_shr, e_eql, e_neq, e_lss, e_leq, e_gtr, e_geq, e_beq, e_bne, e_peq1, e_peq2, e_pne1, e_pne2, e_zeq1, e_zeq2, e_zne1, e_zne2, e_feq1, e_fne1, e_feq2, e_fne2, e_seq, e_sne, e_ta1, e_ta2, Nat.zero_add, Nat.add_zero, Bool.not_true, Bool.not_false]
  by_cases hlt : i < s.L.length
  · have hlt' : (i : Int) < ((s.L.length : Nat) : Int) := by omega
    simp only [hlt', decide_true, e_fd, e_nck, e_pkt, e_pkf, e_gdtt, e_gdtf, e_gdft, e_gdff, e_ift, e_iff, e_not, e_ln, e_lnT, e_cp, e_cvi, e_ex20, e_ex21, e_ex30, e_ex31, e_ex32, e_add, e_sub, e_mul, e_quo, e_rem, e_and, e_or, e_xor, e_shl, e_shr, e_eql, e_neq, e_lss, e_leq, e_gtr, e_geq, e_beq, e_bne, e_peq1, e_peq2, e_pne1, e_pne2, e_zeq1, e_zeq2, e_zne1, e_zne2, e_feq1, e_fne1, e_feq2, e_fne2, e_seq, e_sne, e_ta1, e_ta2, Nat.zero_add, Nat.add_zero, Bool.not_true, Bool.not_false]
    refine h1.wd.live.sl.read lbV_len hlt ?_
    refine nw_r fun w2 r2 hk2 hz2 => ?_
    refine stn_r (cs := lbV s.L[i]) r2 rfl (show 0 + 3 ≤ 3 by decide) rfl fun w3 r3 hk3 hz3 => ?_
    have r3' : Row w3 w1.heap.size 66 (lbV s.L[i]) := r3
    have nown : ¬ OwnW m s.L w1.heap.size := fun e => by have := h1.wd.lt (b := w1.heap.size) e; omega
    have zb := h1.bel.size
    have h3 : LSt W w3 m s := (h1.kp' hk2).kp hk3 (fun b e => by
      have e : b = w1.heap.size := e
      exact ⟨by omega, by rw [e]; exact nown⟩)
    try simp only [e_fd, e_nck, e_pkt, e_pkf, e_gdtt, e_gdtf, e_gdft, e_gdff, e_ift, e_iff, e_not, e_ln, e_lnT, e_cp, e_cvi, e_ex20, e_ex21, e_ex30, e_ex31, e_ex32, e_add, e_sub, e_mul, e_quo, e_rem, e_and, e_or, e_xor, e_shl, e_shr, e_eql, e_neq, e_lss, e_leq, e_gtr, e_geq, e_beq, e_bne, e_peq1, e_peq2, e_pne1, e_pne2, e_zeq1, e_zeq2, e_zne1, e_zne2, e_feq1, e_fne1, e_feq2, e_fne2, e_seq, e_sne, e_ta1, e_ta2, Nat.zero_add, Nat.add_zero, Bool.not_true, Bool.not_false]
    refine ld1_r r3' rfl ?_
    try simp only [e_fd, e_nck, e_pkt, e_pkf, e_gdtt, e_gdtf, e_gdft, e_gdff, e_ift, e_iff, e_not, e_ln, e_lnT, e_cp, e_cvi, e_ex20, e_ex21, e_ex30, e_ex31, e_ex32, e_add, e_sub, e_mul, e_quo, e_rem, e_and, e_or, e_xor, e_shl, e_shr, e_eql, e_neq, e_lss, e_leq, e_gtr, e_geq, e_beq, e_bne, e_peq1, e_peq2, e_pne1, e_pne2, e_zeq1, e_zeq2, e_zne1, e_zne2, e_feq1, e_fne1, e_feq2, e_fne2, e_seq, e_sne, e_ta1, e_ta2, Nat.zero_add, Nat.add_zero, Bool.not_true, Bool.not_false]
    have hrg := h1.rng _ (List.getElem_mem hlt)
    have e1 : lenS (s.L.take (i + 1)) = lenS (s.L.take i) + s.L[i].ws.length := takeS (fun (x : Lb) => x.ws.length) s.L hlt
    have e2 := lenP_le s.L (i + 1)
    rw [w64 (show s.L[i].ws.length < 18446744073709551616 by omega), show ((lenS (s.L.take i) : Nat) : Int) + ((s.L[i].ws.length : Nat) : Int) = ((lenS (s.L.take (i + 1)) : Nat) : Int) by rw [e1]; omega, w64 (by omega), wrap64_id (by omega) (by omega)]
    exact ⟨n - 1, by omega, i + 1, by omega, by omega, by simp, h3⟩
  · have hlt' : ¬ (i : Int) < ((s.L.length : Nat) : Int) := by omega
    simp only [hlt', decide_false, e_fd, e_nck, e_pkt, e_pkf, e_gdtt, e_gdtf, e_gdft, e_gdff, e_ift, e_iff, e_not, e_ln, e_lnT, e_cp, e_cvi, e_ex20, e_ex21, e_ex30, e_ex31, e_ex32, e_add, e_sub, e_mul, e_quo, e_rem, e_and, e_or, e_xor, e_shl, e_shr, e_eql, e_neq, e_lss, e_leq, e_gtr, e_geq, e_beq, e_bne, e_peq1, e_peq2, e_pne1, e_pne2, e_zeq1, e_zeq2, e_zne1, e_zne2, e_feq1, e_fne1, e_feq2, e_fne2, e_seq, e_sne, e_ta1, e_ta2, Nat.zero_add, Nat.add_zero, Bool.not_true, Bool.not_false]
    have ei : i = s.L.length := by omega
    unfold s9_p3
    have es : lenS (s.L.take i) = usedS s.A.ws s.T := by rw [ei, List.take_length]; exact hsum.symm
    rw [es]
    simp only [bne_self_eq_false, e_fd, e_nck, e_pkt, e_pkf, e_gdtt, e_gdtf, e_gdft, e_gdff, e_ift, e_iff, e_not, e_ln, e_lnT, e_cp, e_cvi, e_ex20, e_ex21, e_ex30, e_ex31, e_ex32, e_add, e_sub, e_mul, e_quo, e_rem, e_and, e_or, e_xor, e_shl, e_shr, e_eql, e_neq, e_lss, e_leq, e_gtr, e_geq, e_beq, e_bne, e_peq1, e_peq2, e_pne1, e_pne2, e_zeq1, e_zeq2, e_zne1, e_zne2, e_feq1, e_fne1, e_feq2, e_fne2, e_seq, e_sne, e_ta1, e_ta2, Nat.zero_add, Nat.add_zero, Bool.not_true, Bool.not_false]
    unfold s9_p2
    try simp only [e_fd, e_nck, e_pkt, e_pkf, e_gdtt, e_gdtf, e_gdft, e_gdff, e_ift, e_iff, e_not, e_ln, e_lnT, e_cp, e_cvi, e_ex20, e_ex21, e_ex30, e_ex31, e_ex32, e_add, e_sub, e_mul, e_quo, e_rem, e_and, e_or, e_xor, e_shl, e_shr, e_eql, e_neq, e_lss, e_leq, e_gtr, e_geq, e_beq, e_bne, e_peq1, e_peq2, e_pne1, e_pne2, e_zeq1, e_zeq2, e_zne1, e_zne2, e_feq1, e_fne1, e_feq2, e_fne2, e_seq, e_sne, e_ta1, e_ta2, Nat.zero_add, Nat.add_zero, Bool.not_true, Bool.not_false]
    rw [wrap64_id (by omega) (by omega)]
    exact next w1 h1

theorem law9_loop (hs : Scr W v ops) (hl : ops.length ≤ 65536) (h : LSt W w m s) (hI : PInv s.A.ws s.T s.L F) (hT : s.T.ps = []) (hL : s.L = []) (hK : ∀ w', Below W.heap.size W w' → K (.bool true) w') : s9_p8 K (P m.wdb 0) v (I ops.length) (I 0) w := by
  unfold s9_p8
  refine ⟨fun n l w' => ∃ (j : Nat) (m' : Wm) (s' : Ws) (F' : Nat → List Nat), j ≤ ops.length ∧ n + j = ops.length ∧ l = [P m'.wdb 0, v, I ops.length, I j] ∧ LSt W w' m' s' ∧ LiveIn s'.L ∧ s'.L.length ≤ j ∧ PInv s'.A.ws s'.T s'.L F' ∧ FailLe j s',
    ops.length, ⟨0, m, s, F, Nat.zero_le _, rfl, rfl, h, fun x hx => (by rw [hL] at hx; cases hx), by rw [hL]; exact Nat.le_refl _, hI, fun sh hsh => (by rw [hT] at hsh; cases hsh)⟩, ?_⟩
  rintro n l w1 ⟨j, m1, s1, F1, hj, hn, rfl, h1, hg1, hL1, hI1, hf1⟩
  rw [s9_p8_Fe]
  unfold s9_p7
  try simp only [e_fd, e_nck, e_pkt, e_pkf, e_gdtt, e_gdtf, e_gdft, e_gdff, e_ift, e_iff, e_not, e_ln, e_lnT, e_cp, e_cvi, e_ex20, e_ex21, e_ex30, e_ex31, e_ex32, e_add, e_sub, e_mul, e_quo, e_rem, e_and, e_or, e_xor, e_shl, e_shr, e_eql, e_neq, e_lss, e_leq, e_gtr, e_geq, e_beq, e_bne, e_peq1, e_peq2, e_pne1, e_pne2, e_zeq1, e_zeq2, e_zne1, e_zne2, e_feq1, e_fne1, e_feq2, e_fne2, e_seq, e_sne, e_ta1, e_ta2, Nat.zero_add, Nat.add_zero, Bool.not_true, Bool.not_false]
  by_cases hlt : j < ops.length
  · have hlt' : (j : Int) < ((ops.length : Nat) : Int) := by omega
    simp only [hlt', decide_true, e_fd, e_nck, e_pkt, e_pkf, e_gdtt, e_gdtf, e_gdft, e_gdff, e_ift, e_iff, e_not, e_ln, e_lnT, e_cp, e_cvi, e_ex20, e_ex21, e_ex30, e_ex31, e_ex32, e_add, e_sub, e_mul, e_quo, e_rem, e_and, e_or, e_xor, e_shl, e_shr, e_eql, e_neq, e_lss, e_leq, e_gtr, e_geq, e_beq, e_bne, e_peq1, e_peq2, e_pne1, e_pne2, e_zeq1, e_zeq2, e_zne1, e_zne2, e_feq1, e_fne1, e_feq2, e_fne2, e_seq, e_sne, e_ta1, e_ta2, Nat.zero_add, Nat.add_zero, Bool.not_true, Bool.not_false]
    unfold s9_p6
    refine hs.take h1.bel hlt fun w2 t5 r5 hk2 hz2 => ?_
    have h2 := h1.kp' hk2
    try simp only [e_fd, e_nck, e_pkt, e_pkf, e_gdtt, e_gdtf, e_gdft, e_gdff, e_ift, e_iff, e_not, e_ln, e_lnT, e_cp, e_cvi, e_ex20, e_ex21, e_ex30, e_ex31, e_ex32, e_add, e_sub, e_mul, e_quo, e_rem, e_and, e_or, e_xor, e_shl, e_shr, e_eql, e_neq, e_lss, e_leq, e_gtr, e_geq, e_beq, e_bne, e_peq1, e_peq2, e_pne1, e_pne2, e_zeq1, e_zeq2, e_zne1, e_zne2, e_feq1, e_fne1, e_feq2, e_fne2, e_seq, e_sne, e_ta1, e_ta2, Nat.zero_add, Nat.add_zero, Bool.not_true, Bool.not_false]
    refine ld1_r r5 rfl ?_
    unfold u8
    try simp only [e_fd, e_nck, e_pkt, e_pkf, e_gdtt, e_gdtf, e_gdft, e_gdff, e_ift, e_iff, e_not, e_ln, e_lnT, e_cp, e_cvi, e_ex20, e_ex21, e_ex30, e_ex31, e_ex32, e_add, e_sub, e_mul, e_quo, e_rem, e_and, e_or, e_xor, e_shl, e_shr, e_eql, e_neq, e_lss, e_leq, e_gtr, e_geq, e_beq, e_bne, e_peq1, e_peq2, e_pne1, e_pne2, e_zeq1, e_zeq2, e_zne1, e_zne2, e_feq1, e_fne1, e_feq2, e_fne2, e_seq, e_sne, e_ta1, e_ta2, Nat.zero_add, Nat.add_zero, Bool.not_true, Bool.not_false]
    have wf := hs.1 _ (List.getElem_mem hlt)
    generalize ops[j] = o at r5 wf ⊢
    by_cases k8 : o.kind = 8
    · have e : (((o.kind : Nat) : Int) == 8) = true := by rw [k8]; rfl
      simp only [e, e_fd, e_nck, e_pkt, e_pkf, e_gdtt, e_gdtf, e_gdft, e_gdff, e_ift, e_iff, e_not, e_ln, e_lnT, e_cp, e_cvi, e_ex20, e_ex21, e_ex30, e_ex31, e_ex32, e_add, e_sub, e_mul, e_quo, e_rem, e_and, e_or, e_xor, e_shl, e_shr, e_eql, e_neq, e_lss, e_leq, e_gtr, e_geq, e_beq, e_bne, e_peq1, e_peq2, e_pne1, e_pne2, e_zeq1, e_zeq2, e_zne1, e_zne2, e_feq1, e_fne1, e_feq2, e_fne2, e_seq, e_sne, e_ta1, e_ta2, Nat.zero_add, Nat.add_zero, Bool.not_true, Bool.not_false]
      unfold s9_p2
      try simp only [e_fd, e_nck, e_pkt, e_pkf, e_gdtt, e_gdtf, e_gdft, e_gdff, e_ift, e_iff, e_not, e_ln, e_lnT, e_cp, e_cvi, e_ex20, e_ex21, e_ex30, e_ex31, e_ex32, e_add, e_sub, e_mul, e_quo, e_rem, e_and, e_or, e_xor, e_shl, e_shr, e_eql, e_neq, e_lss, e_leq, e_gtr, e_geq, e_beq, e_bne, e_peq1, e_peq2, e_pne1, e_pne2, e_zeq1, e_zeq2, e_zne1, e_zne2, e_feq1, e_fne1, e_feq2, e_fne2, e_seq, e_sne, e_ta1, e_ta2, Nat.zero_add, Nat.add_zero, Bool.not_true, Bool.not_false]
      rw [wrap64_id (by omega) (by omega)]
      exact ⟨n - 1, by omega, j + 1, m1, s1, F1, by omega, by omega, by simp, h2, hg1, by omega, hI1, hf1.mono (by omega)⟩
    · have e : (((o.kind : Nat) : Int) == 8) = false := by rw [beq_eq_false_iff_ne]; omega
      simp only [e, e_fd, e_nck, e_pkt, e_pkf, e_gdtt, e_gdtf, e_gdft, e_gdff, e_ift, e_iff, e_not, e_ln, e_lnT, e_cp, e_cvi, e_ex20, e_ex21, e_ex30, e_ex31, e_ex32, e_add, e_sub, e_mul, e_quo, e_rem, e_and, e_or, e_xor, e_shl, e_shr, e_eql, e_neq, e_lss, e_leq, e_gtr, e_geq, e_beq, e_bne, e_peq1, e_peq2, e_pne1, e_pne2, e_zeq1, e_zeq2, e_zne1, e_zne2, e_feq1, e_fne1, e_feq2, e_fne2, e_seq, e_sne, e_ta1, e_ta2, Nat.zero_add, Nat.add_zero, Bool.not_true, Bool.not_false]
      refine ldn_r r5 (show 0 + 4 ≤ 4 by decide) ?_
      refine resolve_ok h2.wd.row h2.wd.live (by omega) wf.kind fun w3 hk3 => ?_
      have h3 := h2.kp' hk3
      have hco := resF_ok hg1 h3.rng wf
      have hck : (resF s1.L o).kind ≠ 8 := by rw [resF_kind]; exact k8
      generalize resF s1.L o = c at hco hck ⊢
      refine real_ok h3.wd hco (by omega) fun w5 m5 kk nb sob sv hkk wd5 st5 sl5 no5 => ?_
      have h5 := h3.st wd5 st5
      obtain ⟨F5, hI5⟩ := real_inv (kk := kk) (nb := nb) h3.wd.ok hco hck hI1 (hf1.mono (by omega))
      have hf5 := real_fail (kk := kk) (nb := nb) h3.wd.ok hco hck hI1 (by omega) hf1
      have hg5 := real_live (c := c) kk nb h3.wd.ok hg1
      have hL5 := real_len (s := s1) (c := c) kk nb
      have hsd5 : (realF kk nb s1 c).A.sd = [] := real_sd
      rw [← st5.wdb]
      try simp only [e_fd, e_nck, e_pkt, e_pkf, e_gdtt, e_gdtf, e_gdft, e_gdff, e_ift, e_iff, e_not, e_ln, e_lnT, e_cp, e_cvi, e_ex20, e_ex21, e_ex30, e_ex31, e_ex32, e_add, e_sub, e_mul, e_quo, e_rem, e_and, e_or, e_xor, e_shl, e_shr, e_eql, e_neq, e_lss, e_leq, e_gtr, e_geq, e_beq, e_bne, e_peq1, e_peq2, e_pne1, e_pne2, e_zeq1, e_zeq2, e_zne1, e_zne2, e_feq1, e_fne1, e_feq2, e_fne2, e_seq, e_sne, e_ta1, e_ta2, Nat.zero_add, Nat.add_zero, Bool.not_true, Bool.not_false]
      refine ld1_r h5.wd.row rfl ?_
      generalize realF kk nb s1 c = s5 at *
      refine h5.audit (C := True) (F := F5) (fun _ => hI5.pool) fun w6 q code h6 kp6 hc6 => ?_
      obtain rfl := hc6 trivial
      simp only [bne_self_eq_false, e_fd, e_nck, e_pkt, e_pkf, e_gdtt, e_gdtf, e_gdft, e_gdff, e_ift, e_iff, e_not, e_ln, e_lnT, e_cp, e_cvi, e_ex20, e_ex21, e_ex30, e_ex31, e_ex32, e_add, e_sub, e_mul, e_quo, e_rem, e_and, e_or, e_xor, e_shl, e_shr, e_eql, e_neq, e_lss, e_leq, e_gtr, e_geq, e_beq, e_bne, e_peq1, e_peq2, e_pne1, e_pne2, e_zeq1, e_zeq2, e_zne1, e_zne2, e_feq1, e_fne1, e_feq2, e_fne2, e_seq, e_sne, e_ta1, e_ta2, Nat.zero_add, Nat.add_zero, Bool.not_true, Bool.not_false]
      refine ld1_r h6.wd.row rfl ?_
      refine h6.take fun w7 m7 h7 e7 _ sl7 hk7 => ?_
      have e6 : (tkS s5 q).A.sd = [] := hsd5
      rw [e6] at sl7
      refine sl7.ln ?_
      simp only [List.length_nil, show (((0 : Nat) : Int) != 0) = false from rfl, e_fd, e_nck, e_pkt, e_pkf, e_gdtt, e_gdtf, e_gdft, e_gdff, e_ift, e_iff, e_not, e_ln, e_lnT, e_cp, e_cvi, e_ex20, e_ex21, e_ex30, e_ex31, e_ex32, e_add, e_sub, e_mul, e_quo, e_rem, e_and, e_or, e_xor, e_shl, e_shr, e_eql, e_neq, e_lss, e_leq, e_gtr, e_geq, e_beq, e_bne, e_peq1, e_peq2, e_pne1, e_pne2, e_zeq1, e_zeq2, e_zne1, e_zne2, e_feq1, e_fne1, e_feq2, e_fne2, e_seq, e_sne, e_ta1, e_ta2, Nat.zero_add, Nat.add_zero, Bool.not_true, Bool.not_false]
      rw [← e7]
      refine ld1_r h7.wd.row rfl ?_
      refine totals_ok h7.wd.arn h7.wd.tbl h7.wd.ok hI5.pool fun w8 k8' all a8 st8 => ?_
      have h8 := h7.st (h7.wd.setA a8 st8) ((StW.refl w7 m7 _).setA st8)
      try simp only [e_fd, e_nck, e_pkt, e_pkf, e_gdtt, e_gdtf, e_gdft, e_gdff, e_ift, e_iff, e_not, e_ln, e_lnT, e_cp, e_cvi, e_ex20, e_ex21, e_ex30, e_ex31, e_ex32, e_add, e_sub, e_mul, e_quo, e_rem, e_and, e_or, e_xor, e_shl, e_shr, e_eql, e_neq, e_lss, e_leq, e_gtr, e_geq, e_beq, e_bne, e_peq1, e_peq2, e_pne1, e_pne2, e_zeq1, e_zeq2, e_zne1, e_zne2, e_feq1, e_fne1, e_feq2, e_fne2, e_seq, e_sne, e_ta1, e_ta2, Nat.zero_add, Nat.add_zero, Bool.not_true, Bool.not_false]
      refine ld1_r h8.wd.row rfl ?_
      refine h8.wd.live.sl.ln ?_
      refine law9_sum (m := m7) (s := ⟨tk (A0 (tkS s5 q).A) k8', s5.T, s5.L⟩) h8 hI5 (by show s5.L.length ≤ _; omega) (by omega) fun w9 h9 => ?_
      exact ⟨n - 1, by omega, j + 1, m7, _, F5, by omega, by omega, rfl, h9, hg5, by show s5.L.length ≤ _; omega, hI5, hf5⟩
  · have hlt' : ¬ (j : Int) < ((ops.length : Nat) : Int) := by omega
    simp only [hlt', decide_false, e_fd, e_nck, e_pkt, e_pkf, e_gdtt, e_gdtf, e_gdft, e_gdff, e_ift, e_iff, e_not, e_ln, e_lnT, e_cp, e_cvi, e_ex20, e_ex21, e_ex30, e_ex31, e_ex32, e_add, e_sub, e_mul, e_quo, e_rem, e_and, e_or, e_xor, e_shl, e_shr, e_eql, e_neq, e_lss, e_leq, e_gtr, e_geq, e_beq, e_bne, e_peq1, e_peq2, e_pne1, e_pne2, e_zeq1, e_zeq2, e_zne1, e_zne2, e_feq1, e_fne1, e_feq2, e_fne2, e_seq, e_sne, e_ta1, e_ta2, Nat.zero_add, Nat.add_zero, Bool.not_true, Bool.not_false]
    unfold s9_p1
    exact hK w1 h1.bel

theorem law9 (hs : Scr W v ops) (g0 : W.cell? ⟨0, 0, none⟩ = some (U32 24)) (g1 : W.cell? ⟨0, 1, none⟩ = some (U32 4040)) : cl Tryd.prog 9 #[v] (fun r w' => r = .bool true ∧ Below W.heap.size W w') W := by
  apply c9
  unfold s9_p9
  refine small_ok hs ?_
  by_cases hl : ops.length ≤ 65536
  · simp only [hl, decide_true, e_fd, e_nck, e_pkt, e_pkf, e_gdtt, e_gdtf, e_gdft, e_gdff, e_ift, e_iff, e_not, e_ln, e_lnT, e_cp, e_cvi, e_ex20, e_ex21, e_ex30, e_ex31, e_ex32, e_add, e_sub, e_mul, e_quo, e_rem, e_and, e_or, e_xor, e_shl, e_shr, e_eql, e_neq, e_lss, e_leq, e_gtr, e_geq, e_beq, e_bne, e_peq1, e_peq2, e_pne1, e_pne2, e_zeq1, e_zeq2, e_zne1, e_zne2, e_feq1, e_fne1, e_feq2, e_fne2, e_seq, e_sne, e_ta1, e_ta2, Nat.zero_add, Nat.add_zero, Bool.not_true, Bool.not_false]
    refine newWorld_ok g0 g1 (Below.refl _ _) fun w1 m A mb h1 ho1 hmd rmb hz1 hk1 => ?_
    refine hs.ln ?_
    exact law9_loop hs hl h1 (PInv.open A 24 4040) rfl rfl fun w' hb => ⟨rfl, hb⟩
  · simp only [hl, decide_false, e_fd, e_nck, e_pkt, e_pkf, e_gdtt, e_gdtf, e_gdft, e_gdff, e_ift, e_iff, e_not, e_ln, e_lnT, e_cp, e_cvi, e_ex20, e_ex21, e_ex30, e_ex31, e_ex32, e_add, e_sub, e_mul, e_quo, e_rem, e_and, e_or, e_xor, e_shl, e_shr, e_eql, e_neq, e_lss, e_leq, e_gtr, e_geq, e_beq, e_bne, e_peq1, e_peq2, e_pne1, e_pne2, e_zeq1, e_zeq2, e_zne1, e_zne2, e_feq1, e_fne1, e_feq2, e_fne2, e_seq, e_sne, e_ta1, e_ta2, Nat.zero_add, Nat.add_zero, Bool.not_true, Bool.not_false]
    exact ⟨trivial, Below.refl _ _⟩
theorem law9_walk (hs : Scr W v ops) (g0 : W.cell? ⟨0, 0, none⟩ = some (U32 24)) (g1 : W.cell? ⟨0, 1, none⟩ = some (U32 4040)) : Calls Tryd.prog 9 #[v] W fun e w' => e = .returned (.bool true) ∧ Below W.heap.size W w' :=
  Calls.mono (law9 hs g0 g1) fun e w' ⟨r, he, hr, hb⟩ => ⟨by rw [he, hr], hb⟩
end
end Go.Proofs.Qxb6500893aDoor
