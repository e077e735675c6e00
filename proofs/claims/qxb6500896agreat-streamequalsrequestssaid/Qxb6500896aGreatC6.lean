import Derived.Test.Qxb6500896aGreatK78
import Derived.Test.Qxb6500896aGreatGz
namespace Go.Proofs.Qxb6500896aGreat
open Go.Sh Go.RowKit
set_option linter.unusedVariables false
set_option linter.unusedSimpArgs false

section
variable {F M : Nat → Prop} {w w' w1 : World} {v lv rv : Value} {l : List Value} {C : Cfg} {rs : List Rec} {K : Value → World → Prop} {st : Int}
theorem liveL_ok (hK : K (.bool (live st)) w) : cl Tryz.prog 115 #[I st] K w := by
  apply c115
  unfold s115_p1
  unfold live at hK
  try simp only [e_fd, e_nck, e_pkt, e_pkf, e_gdtt, e_gdtf, e_gdft, e_gdff, e_ift, e_iff, e_not, e_ln, e_lnT, e_cp, e_cvi, e_ex20, e_ex21, e_ex30, e_ex31, e_ex32, e_add, e_sub, e_mul, e_quo, e_rem, e_and, e_or, e_xor, e_shl, e_shr, e_eql, e_neq, e_lss, e_leq, e_gtr, e_geq, e_beq, e_bne, e_peq1, e_peq2, e_pne1, e_pne2, e_zeq1, e_zeq2, e_zne1, e_zne2, e_feq1, e_fne1, e_feq2, e_fne2, e_seq, e_sne, e_ta1, e_ta2, Nat.zero_add, Nat.add_zero, Bool.not_true, Bool.not_false]
  cases h1 : (st == 1) with
  | true => rw [h1] at hK; simp only [Bool.true_or, e_fd, e_nck, e_pkt, e_pkf, e_gdtt, e_gdtf, e_gdft, e_gdff, e_ift, e_iff, e_not, e_ln, e_lnT, e_cp, e_cvi, e_ex20, e_ex21, e_ex30, e_ex31, e_ex32, e_add, e_sub, e_mul, e_quo, e_rem, e_and, e_or, e_xor, e_shl, e_shr, e_eql, e_neq, e_lss, e_leq, e_gtr, e_geq, e_beq, e_bne, e_peq1, e_peq2, e_pne1, e_pne2, e_zeq1, e_zeq2, e_zne1, e_zne2, e_feq1, e_fne1, e_feq2, e_fne2, e_seq, e_sne, e_ta1, e_ta2, Nat.zero_add, Nat.add_zero, Bool.not_true, Bool.not_false] at hK ⊢; exact hK
  | false =>
    rw [h1] at hK
    simp only [Bool.false_or, e_fd, e_nck, e_pkt, e_pkf, e_gdtt, e_gdtf, e_gdft, e_gdff, e_ift, e_iff, e_not, e_ln, e_lnT, e_cp, e_cvi, e_ex20, e_ex21, e_ex30, e_ex31, e_ex32, e_add, e_sub, e_mul, e_quo, e_rem, e_and, e_or, e_xor, e_shl, e_shr, e_eql, e_neq, e_lss, e_leq, e_gtr, e_geq, e_beq, e_bne, e_peq1, e_peq2, e_pne1, e_pne2, e_zeq1, e_zeq2, e_zne1, e_zne2, e_feq1, e_fne1, e_feq2, e_fne2, e_seq, e_sne, e_ta1, e_ta2, Nat.zero_add, Nat.add_zero, Bool.not_true, Bool.not_false] at hK ⊢
    cases h2 : (st == 2) with
    | true => rw [h2] at hK; simp only [Bool.true_or, e_fd, e_nck, e_pkt, e_pkf, e_gdtt, e_gdtf, e_gdft, e_gdff, e_ift, e_iff, e_not, e_ln, e_lnT, e_cp, e_cvi, e_ex20, e_ex21, e_ex30, e_ex31, e_ex32, e_add, e_sub, e_mul, e_quo, e_rem, e_and, e_or, e_xor, e_shl, e_shr, e_eql, e_neq, e_lss, e_leq, e_gtr, e_geq, e_beq, e_bne, e_peq1, e_peq2, e_pne1, e_pne2, e_zeq1, e_zeq2, e_zne1, e_zne2, e_feq1, e_fne1, e_feq2, e_fne2, e_seq, e_sne, e_ta1, e_ta2, Nat.zero_add, Nat.add_zero, Bool.not_true, Bool.not_false] at hK ⊢; exact hK
    | false =>
      rw [h2] at hK
      simp only [Bool.false_or, e_fd, e_nck, e_pkt, e_pkf, e_gdtt, e_gdtf, e_gdft, e_gdff, e_ift, e_iff, e_not, e_ln, e_lnT, e_cp, e_cvi, e_ex20, e_ex21, e_ex30, e_ex31, e_ex32, e_add, e_sub, e_mul, e_quo, e_rem, e_and, e_or, e_xor, e_shl, e_shr, e_eql, e_neq, e_lss, e_leq, e_gtr, e_geq, e_beq, e_bne, e_peq1, e_peq2, e_pne1, e_pne2, e_zeq1, e_zeq2, e_zne1, e_zne2, e_feq1, e_fne1, e_feq2, e_fne2, e_seq, e_sne, e_ta1, e_ta2, Nat.zero_add, Nat.add_zero, Bool.not_true, Bool.not_false] at hK ⊢
      cases h3 : (st == 3) with
      | true => rw [h3] at hK; simp only [Bool.true_or, e_fd, e_nck, e_pkt, e_pkf, e_gdtt, e_gdtf, e_gdft, e_gdff, e_ift, e_iff, e_not, e_ln, e_lnT, e_cp, e_cvi, e_ex20, e_ex21, e_ex30, e_ex31, e_ex32, e_add, e_sub, e_mul, e_quo, e_rem, e_and, e_or, e_xor, e_shl, e_shr, e_eql, e_neq, e_lss, e_leq, e_gtr, e_geq, e_beq, e_bne, e_peq1, e_peq2, e_pne1, e_pne2, e_zeq1, e_zeq2, e_zne1, e_zne2, e_feq1, e_fne1, e_feq2, e_fne2, e_seq, e_sne, e_ta1, e_ta2, Nat.zero_add, Nat.add_zero, Bool.not_true, Bool.not_false] at hK ⊢; exact hK
      | false =>
        rw [h3] at hK
        simp only [Bool.false_or, e_fd, e_nck, e_pkt, e_pkf, e_gdtt, e_gdtf, e_gdft, e_gdff, e_ift, e_iff, e_not, e_ln, e_lnT, e_cp, e_cvi, e_ex20, e_ex21, e_ex30, e_ex31, e_ex32, e_add, e_sub, e_mul, e_quo, e_rem, e_and, e_or, e_xor, e_shl, e_shr, e_eql, e_neq, e_lss, e_leq, e_gtr, e_geq, e_beq, e_bne, e_peq1, e_peq2, e_pne1, e_pne2, e_zeq1, e_zeq2, e_zne1, e_zne2, e_feq1, e_fne1, e_feq2, e_fne2, e_seq, e_sne, e_ta1, e_ta2, Nat.zero_add, Nat.add_zero, Bool.not_true, Bool.not_false] at hK ⊢
        exact hK
set_option maxRecDepth 100000 in
theorem fiCfg0 : fiK Tryz.prog 34 0 = some 0 := by kernel_rfl
set_option maxHeartbeats 2000000 in
theorem occL_ok {n : Nat} {slot : Int} (hn : n < 3) (hsl : 0 ≤ slot ∧ slot ≤ 1000000) (hr : Ro F w rv rs) (hlen : rs.length ≤ 16777216) (hB : RBs rs) (hid : ∀ r ∈ rs, r.id ≠ 0) (hK : ∀ w', Kp Emp w w' → K (I (inside park rs (n : Nat) slot 0)) w') : cl Tryz.prog 113 #[rv, I (n : Nat), I slot] K w := by
  apply c113
  unfold s113_p11
  refine park_ok fun w0 l0 hk0 hc0 => ?_
  obtain ⟨va, vt, rfl, ha, _⟩ := hc0.ex
  refine fi_r (v := va) fiCfg0 (by rw [List.getElem?_toArray]; rfl) ?_
  have hal : n < park.ats.length := hn
  refine ha.ix hal fun b o _ hcc => ?_
  have ed := dwell_at (C := park) hal
  have hd : 0 ≤ park.ats[n].dw ∧ park.ats[n].dw ≤ 100 := (show ∀ a ∈ park.ats, 0 ≤ a.dw ∧ a.dw ≤ 100 by decide) _ (List.getElem_mem hal)
  generalize park.ats[n] = at_ at hcc ed hd
  simp only [e_fd]
  refine hcc.ld1 (j := 1) (v := I at_.dw) rfl ?_
  refine hr.ln ?_
  obtain ⟨its, e1, hA, e4⟩ := hr
  have hil : its.length = rs.length := by rw [← e1, List.length_map]
  have bnd := fun i => part_b (g := recIn park (n : Nat) slot 0) hlen (fun r hr => recIn_b (hB r hr)) i
  unfold s113_p10
  refine loop_n rs.length (fun i l w' => l = [I (n : Nat), I slot, I at_.dw, I ((rs.take i).map (recIn park (n : Nat) slot 0)).sum, rv, I (rs.length : Nat), I (i : Nat)] ∧ Kp Emp w w') ⟨rfl, hk0⟩ ?_ ?_
  · rintro i l w1 hi ⟨rfl, k1⟩ B hB1
    rw [s113_p10_Fe]
    unfold s113_p9
    simp only [dlt hi, e_lss, e_ift]
    unfold s113_p8
    have hi2 : i < its.length := by omega
    have ei : its[i].1 = rs[i] := by
      have : (its.map (·.1))[i]? = rs[i]? := by rw [e1]
      rw [List.getElem?_map, List.getElem?_eq_getElem hi2, List.getElem?_eq_getElem hi] at this
      exact Option.some.inj this
    have hlg := e4 _ (List.getElem_mem hi2)
    have rb := hB _ (List.getElem_mem hi)
    have hidi := hid _ (List.getElem_mem hi)
    refine each_r rfl (hA.kp' k1) hi2 (rC_len _) (rC_sc hlg.scal) fun w2 r2 hk2 hz2 => ?_
    generalize its[i] = p at ei hlg r2
    have k2 := k1.trans hk2
    have b1 := bnd i
    have b2 := bnd (i + 1)
    rw [sum_take hi] at b2
    have nxt : ∀ w3 x, Kp Emp w w3 → x = ((rs.take i).map (recIn park (n : Nat) slot 0)).sum + recIn park (n : Nat) slot 0 rs[i] → s113_p2 K B (I (n : Nat)) (I slot) (I at_.dw) (I x) rv (I (rs.length : Nat)) (I (i : Nat)) w3 := by
      intro w3 x k3 hx
      unfold s113_p2
      simp only [e_add]
      rw [inc i (by omega)]
      exact hB1 _ _ ⟨by rw [hx, sum_take hi], k3⟩
    refine fdp (ld1_r (v := I p.1.st) r2 rfl ?_)
    refine liveL_ok ?_
    rw [ei]
    have hsk : (rs[i].id == 0) = false := by rw [beq_eq_false_iff_ne]; exact hidi
    unfold s113_p7
    cases hlv : live rs[i].st with
    | false =>
      refine sw_f ?_
      refine nxt w2 _ k2 ?_
      unfold recIn
      rw [hlv]
      simp
    | true =>
      refine sw_t ?_
      have er : recIn park (n : Nat) slot 0 rs[i] = sumL (legIn park (n : Nat) slot) rs[i].sz rs[i].legs := by
        unfold recIn; rw [hlv, hsk]; rfl
      unfold s113_p6
      refine fdp (ld1_r (v := p.2) r2 rfl ?_)
      refine hlg.ln ?_
      rw [ei]
      rw [ei] at hlg
      have hll := rb.ll
      unfold s113_p5
      refine loop_n rs[i].legs.length (fun k l w' => l = [I (n : Nat), I slot, I at_.dw, I (((rs.take i).map (recIn park (n : Nat) slot 0)).sum + sumL (legIn park (n : Nat) slot) rs[i].sz (rs[i].legs.take k)), P w1.heap.size 0, rv, I (rs.length : Nat), I (i : Nat), p.2, I (rs[i].legs.length : Nat), I (k : Nat)] ∧ Kp Emp w w' ∧ Row w' w1.heap.size 85 (rC p)) ⟨by simp [sumL], k2, r2⟩ ?_ ?_
      · rintro k l w3 hk ⟨rfl, k3, r3⟩ B2 hB2
        rw [s113_p5_Fe]
        unfold s113_p4
        simp only [dlt hk, e_lss, e_ift]
        refine each_r rfl (hlg.kp' k3) hk (lC_len _) (lC_sc _) fun w4 r4 hk4 hz4 => ?_
        have r34 := hk4.row' r3
        have k4 := k3.trans hk4
        have b3 := sumL_b8 (p := legIn park (n : Nat) slot) rb k
        have b4 := sumL_b8 (p := legIn park (n : Nat) slot) rb (k + 1)
        rw [sumL_take hk] at b4
        obtain ⟨s0, s1⟩ := rb.lg _ (List.getElem_mem hk)
        have fin : ∀ c : Bool, c = legIn park (n : Nat) slot rs[i].legs[k] → ifb (.bool c) (fd 3 (P w1.heap.size 0) (fun t54 w => ld1 t54 (fun t55 w => boI .add (I (((rs.take i).map (recIn park (n : Nat) slot 0)).sum + sumL (legIn park (n : Nat) slot) rs[i].sz (rs[i].legs.take k))) t55 (fun t56 w => s113_p3 K B B2 (I (n : Nat)) (I slot) (I at_.dw) t56 (P w1.heap.size 0) rv (I (rs.length : Nat)) (I (i : Nat)) p.2 (I (rs[i].legs.length : Nat)) (I (k : Nat)) w) w) w) w4)
            (s113_p3 K B B2 (I (n : Nat)) (I slot) (I at_.dw) (I (((rs.take i).map (recIn park (n : Nat) slot 0)).sum + sumL (legIn park (n : Nat) slot) rs[i].sz (rs[i].legs.take k))) (P w1.heap.size 0) rv (I (rs.length : Nat)) (I (i : Nat)) p.2 (I (rs[i].legs.length : Nat)) (I (k : Nat)) w4) := by
          intro c hc
          cases c with
          | true =>
            refine sw_t ?_
            refine fdp (ld1_r (v := I p.1.sz) r34 rfl ?_)
            simp only [e_add]
            rw [ei]
            rw [← hc] at b4
            have s0 := rb.s0
            have s1 := rb.s1
            rw [wrap64_id (by omega) (by omega)]
            unfold s113_p3
            simp only [e_add]
            rw [inc k (by omega)]
            refine hB2 _ _ ⟨by rw [sumL_take hk, ← hc]; simp only [if_true]; rw [Int.add_assoc], k4, r34⟩
          | false =>
            refine sw_f ?_
            unfold s113_p3
            simp only [e_add]
            rw [inc k (by omega)]
            refine hB2 _ _ ⟨by rw [sumL_take hk, ← hc]; simp, k4, r34⟩
        refine fdp (ld1_r (v := I rs[i].legs[k].a) r4 rfl ?_)
        have hlin : legIn park (n : Nat) slot rs[i].legs[k] = (rs[i].legs[k].a == ((n : Nat) : Int) && (decide (rs[i].legs[k].s ≤ slot) && decide (slot < rs[i].legs[k].s + at_.dw))) := by
          unfold legIn
          rw [ed]
        cases ha1 : (rs[i].legs[k].a == ((n : Nat) : Int)) with
        | false =>
          simp only [e_eql, ha1, e_gdft, e_pkf]
          exact fin false (by rw [hlin, ha1]; rfl)
        | true =>
          simp only [e_eql, ha1, e_gdtt, e_sub]
          rw [wrap64_id (by omega) (by omega)]
          refine fdp (ld1_r (v := I rs[i].legs[k].s) r4 rfl ?_)
          simp only [e_lss, e_gdtt, e_pkt]
          by_cases hs2 : slot - at_.dw < rs[i].legs[k].s
          · simp only [hs2, decide_true, e_gdtt]
            refine fdp (ld1_r (v := I rs[i].legs[k].s) r4 rfl ?_)
            simp only [e_gdtt, e_leq, e_pkt]
            refine fin _ ?_
            rw [hlin, ha1, decide_eq_true (show slot < rs[i].legs[k].s + at_.dw by omega)]
            simp
          · simp only [hs2, decide_false, e_gdft, e_pkf]
            exact fin false (by rw [hlin, ha1, decide_eq_false (show ¬ slot < rs[i].legs[k].s + at_.dw by omega)]; simp)
      · rintro l w3 ⟨rfl, k3, r3⟩ B2
        rw [s113_p5_Fe]
        unfold s113_p4
        simp only [dnlt, e_lss, e_iff]
        rw [List.take_length]
        exact nxt w3 _ k3 (by rw [er])
  · rintro l w1 ⟨rfl, k1⟩ B
    rw [s113_p10_Fe]
    unfold s113_p9
    simp only [dnlt, e_lss, e_iff]
    unfold s113_p1
    rw [List.take_length]
    exact hK w1 k1
set_option maxHeartbeats 2000000 in
theorem entL_ok {attr slot cls : Int} (hr : Ro F w rv rs) (hlen : rs.length ≤ 16777216) (hB : RBs rs) (hid : ∀ r ∈ rs, r.id ≠ 0) (hK : ∀ w', Kp Emp w w' → K (I (entered rs attr slot cls 0)) w') : cl Tryz.prog 114 #[rv, I attr, I slot, I cls] K w := by
  apply c114
  unfold s114_p11
  refine hr.ln ?_
  obtain ⟨its, e1, hA, e4⟩ := hr
  have hil : its.length = rs.length := by rw [← e1, List.length_map]
  have bnd := fun i => part_b (g := recAt attr slot cls 0) hlen (fun r hr => recAt_b (hB r hr)) i
  unfold s114_p10
  refine loop_n rs.length (fun i l w' => l = [I attr, I slot, I cls, I ((rs.take i).map (recAt attr slot cls 0)).sum, rv, I (rs.length : Nat), I (i : Nat)] ∧ Kp Emp w w') ⟨rfl, Kp.refl _ _⟩ ?_ ?_
  · rintro i l w1 hi ⟨rfl, k1⟩ B hB1
    rw [s114_p10_Fe]
    unfold s114_p9
    simp only [dlt hi, e_lss, e_ift]
    unfold s114_p8
    have hi2 : i < its.length := by omega
    have ei : its[i].1 = rs[i] := by
      have : (its.map (·.1))[i]? = rs[i]? := by rw [e1]
      rw [List.getElem?_map, List.getElem?_eq_getElem hi2, List.getElem?_eq_getElem hi] at this
      exact Option.some.inj this
    have hlg := e4 _ (List.getElem_mem hi2)
    have rb := hB _ (List.getElem_mem hi)
    have hidi := hid _ (List.getElem_mem hi)
    refine each_r rfl (hA.kp' k1) hi2 (rC_len _) (rC_sc hlg.scal) fun w2 r2 hk2 hz2 => ?_
    generalize its[i] = p at ei hlg r2
    have k2 := k1.trans hk2
    have b1 := bnd i
    have b2 := bnd (i + 1)
    rw [sum_take hi] at b2
    have nxt : ∀ w3 x, Kp Emp w w3 → x = ((rs.take i).map (recAt attr slot cls 0)).sum + recAt attr slot cls 0 rs[i] → s114_p2 K B (I attr) (I slot) (I cls) (I x) rv (I (rs.length : Nat)) (I (i : Nat)) w3 := by
      intro w3 x k3 hx
      unfold s114_p2
      simp only [e_add]
      rw [inc i (by omega)]
      exact hB1 _ _ ⟨by rw [hx, sum_take hi], k3⟩
    refine fdp (ld1_r (v := I p.1.st) r2 rfl ?_)
    refine liveL_ok ?_
    rw [ei]
    have hsk : (rs[i].id == 0) = false := by rw [beq_eq_false_iff_ne]; exact hidi
    have p7f : recAt attr slot cls 0 rs[i] = 0 → s114_p7 K B (I attr) (I slot) (I cls) (I ((rs.take i).map (recAt attr slot cls 0)).sum) (P w1.heap.size 0) rv (I (rs.length : Nat)) (I (i : Nat)) (.bool false) w2 := by
      intro h0
      unfold s114_p7
      refine sw_f ?_
      exact nxt w2 _ k2 (by rw [h0]; omega)
    cases hlv : live rs[i].st with
    | false =>
      simp only [e_gdft, e_pkf]
      refine p7f ?_
      unfold recAt
      rw [hlv]
      simp
    | true =>
      simp only [e_gdtt]
      refine fdp (ld1_r (v := I p.1.cl) r2 rfl ?_)
      simp only [e_gdtt, e_eql, e_pkt]
      rw [ei]
      by_cases hcs : rs[i].cl = cls
      · have ecs : (rs[i].cl == cls) = true := by rw [hcs]; simp
        rw [ecs]
        have er : recAt attr slot cls 0 rs[i] = sumL (legAt attr slot) rs[i].sz rs[i].legs := by
          unfold recAt; rw [hlv, hsk, ecs]; rfl
        unfold s114_p7
        refine sw_t ?_
        unfold s114_p6
        refine fdp (ld1_r (v := p.2) r2 rfl ?_)
        refine hlg.ln ?_
        rw [ei]
        rw [ei] at hlg
        have hll := rb.ll
        unfold s114_p5
        refine loop_n rs[i].legs.length (fun k l w' => l = [I attr, I slot, I cls, I (((rs.take i).map (recAt attr slot cls 0)).sum + sumL (legAt attr slot) rs[i].sz (rs[i].legs.take k)), P w1.heap.size 0, rv, I (rs.length : Nat), I (i : Nat), p.2, I (rs[i].legs.length : Nat), I (k : Nat)] ∧ Kp Emp w w' ∧ Row w' w1.heap.size 85 (rC p)) ⟨by simp [sumL], k2, r2⟩ ?_ ?_
        · rintro k l w3 hk ⟨rfl, k3, r3⟩ B2 hB2
          rw [s114_p5_Fe]
          unfold s114_p4
          simp only [dlt hk, e_lss, e_ift]
          refine each_r rfl (hlg.kp' k3) hk (lC_len _) (lC_sc _) fun w4 r4 hk4 hz4 => ?_
          have r34 := hk4.row' r3
          have k4 := k3.trans hk4
          have b3 := sumL_b8 (p := legAt attr slot) rb k
          have b4 := sumL_b8 (p := legAt attr slot) rb (k + 1)
          rw [sumL_take hk] at b4
          refine ldn_r r4 (show 0 + 2 ≤ 2 by decide) ?_
          refine bdq_r (l := [I attr, I slot]) rfl ?_
          refine leg_eq (a := rs[i].legs[k]) (b := ⟨attr, slot⟩) ?_
          show ifb (.bool (legAt attr slot rs[i].legs[k])) _ _
          cases hc : legAt attr slot rs[i].legs[k] with
          | true =>
            refine sw_t ?_
            refine fdp (ld1_r (v := I p.1.sz) r34 rfl ?_)
            simp only [e_add]
            rw [ei]
            rw [hc] at b4
            have s0 := rb.s0
            have s1 := rb.s1
            rw [wrap64_id (by omega) (by omega)]
            unfold s114_p3
            simp only [e_add]
            rw [inc k (by omega)]
            refine hB2 _ _ ⟨by rw [sumL_take hk, hc]; simp only [if_true]; rw [Int.add_assoc], k4, r34⟩
          | false =>
            refine sw_f ?_
            unfold s114_p3
            simp only [e_add]
            rw [inc k (by omega)]
            refine hB2 _ _ ⟨by rw [sumL_take hk, hc]; simp, k4, r34⟩
        · rintro l w3 ⟨rfl, k3, r3⟩ B2
          rw [s114_p5_Fe]
          unfold s114_p4
          simp only [dnlt, e_lss, e_iff]
          rw [List.take_length]
          exact nxt w3 _ k3 (by rw [er])
      · have ecs : (rs[i].cl == cls) = false := by rw [beq_eq_false_iff_ne]; exact hcs
        rw [ecs]
        refine p7f ?_
        unfold recAt
        rw [ecs]
        simp
  · rintro l w1 ⟨rfl, k1⟩ B
    rw [s114_p10_Fe]
    unfold s114_p9
    simp only [dnlt, e_lss, e_iff]
    unfold s114_p1
    rw [List.take_length]
    exact hK w1 k1
end
end Go.Proofs.Qxb6500896aGreat
