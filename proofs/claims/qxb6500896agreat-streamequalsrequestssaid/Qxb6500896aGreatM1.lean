import Derived.Test.Qxb6500896aGreatD1
import Derived.Test.Qxb6500896aGreatN20
import Derived.Test.Qxb6500896aGreatGh
namespace Go.Proofs.Qxb6500896aGreat
open Go.Sh Go.RowKit
set_option linter.unusedVariables false
set_option linter.unusedSimpArgs false

/-- what the model's state is -/
structure Ms where
  now : Int
  rs : List Rec
  ls : List (List Int)
/-- a model that is only read -/
def Mr (F : Nat → Prop) (w : World) (m : Nat) (s : Ms) : Prop :=
  ∃ va vt rv lv, Row w m 119 (park.cells va vt ++ [I s.now, rv, lv]) ∧ Cg F w (park.cells va vt) park ∧ Ro F w rv s.rs ∧ Rws F w lv s.ls
/-- records with which one can reckon -/
structure Vk (rs : List Rec) : Prop where
  rl : ∀ r ∈ rs, RL park r
  id : ∀ r ∈ rs, r.id ≠ 0
  len : rs.length ≤ 1000
theorem sumL_no {p : Leg → Bool} {sz : Int} : ∀ {ls : List Leg}, (∀ l ∈ ls, p l = false) → sumL p sz ls = 0
  | [], _ => rfl
  | l :: ls, h => by
    have ih := sumL_no (p := p) (sz := sz) (ls := ls) fun x hx => h x (List.mem_cons_of_mem _ hx)
    unfold sumL at ih ⊢
    rw [List.map_cons, List.sum_cons, ih, h l List.mem_cons_self]
    simp
theorem Vk.rb {rs : List Rec} (h : Vk rs) : RBs rs := fun r hr => (h.rl r hr).rb
section
variable {J : World → Prop} {X : (Value → World → Prop) → World → Prop} {k : Value → Prop} {v : Value}
theorem qj_f (h : k undef) : Go.Sh.V.qj J (gd (.bool false) true X) k := ⟨undef, fun w hJ => ⟨⟨rfl, hJ⟩⟩, h⟩
theorem qj_t (hx : ∀ w, J w → X (fun v' w' => v' = v ∧ J w') w) (h : k v) : Go.Sh.V.qj J (gd (.bool true) true X) k := ⟨v, fun w hJ => ⟨hx w hJ⟩, h⟩
theorem qj_v (hx : ∀ w, J w → X (fun v' w' => v' = v ∧ J w') w) (h : k v) : Go.Sh.V.qj J X k := ⟨v, hx, h⟩
end
theorem g_f1 {K : Value → World → Prop} {w : World} {X : (Value → World → Prop) → World → Prop} (h : K undef w) : gd (.bool false) true X K w := ⟨h⟩
theorem g_t1 {K : Value → World → Prop} {w : World} {X : (Value → World → Prop) → World → Prop} (h : X K w) : gd (.bool true) true X K w := ⟨h⟩
theorem p_k1 {K : Value → World → Prop} {w : World} {a b : Value} (h : K a w) : pk (.bool true) a b K w := h
theorem p_k0 {K : Value → World → Prop} {w : World} {a b : Value} (h : K b w) : pk (.bool false) a b K w := h
section
variable {F : Nat → Prop} {w w' w1 : World} {K : Value → World → Prop} {m : Nat} {s : Ms} {st : Int}
theorem Mr.kp' (h : Mr F w m s) (hk : Kp Emp w w') : Mr F w' m s := by
  obtain ⟨va, vt, rv, lv, r, hc, hr, hl⟩ := h
  exact ⟨va, vt, rv, lv, hk.row' r, hc.kp' hk, hr.kp' hk, hl.kp' hk⟩
theorem aliveM_ok (hK : K (.bool (live st)) w) : cl Tryz.prog 193 #[I st] K w := by
  apply c193
  unfold s193_p2
  unfold live at hK
  cases h1 : (st == 1) with
  | true => rw [h1] at hK; simp only [Bool.true_or, h1, e_fd, e_nck, e_pkt, e_pkf, e_gdtt, e_gdtf, e_gdft, e_gdff, e_ift, e_iff, e_not, e_ln, e_lnT, e_cp, e_cvi, e_ex20, e_ex21, e_ex30, e_ex31, e_ex32, e_add, e_sub, e_mul, e_quo, e_rem, e_and, e_or, e_xor, e_shl, e_shr, e_eql, e_neq, e_lss, e_leq, e_gtr, e_geq, e_beq, e_bne, e_peq1, e_peq2, e_pne1, e_pne2, e_zeq1, e_zeq2, e_zne1, e_zne2, e_feq1, e_fne1, e_feq2, e_fne2, e_seq, e_sne, e_ta1, e_ta2, Nat.zero_add, Nat.add_zero, Bool.not_true, Bool.not_false] at hK ⊢; exact hK
  | false =>
    rw [h1] at hK
    simp only [Bool.false_or, h1, e_fd, e_nck, e_pkt, e_pkf, e_gdtt, e_gdtf, e_gdft, e_gdff, e_ift, e_iff, e_not, e_ln, e_lnT, e_cp, e_cvi, e_ex20, e_ex21, e_ex30, e_ex31, e_ex32, e_add, e_sub, e_mul, e_quo, e_rem, e_and, e_or, e_xor, e_shl, e_shr, e_eql, e_neq, e_lss, e_leq, e_gtr, e_geq, e_beq, e_bne, e_peq1, e_peq2, e_pne1, e_pne2, e_zeq1, e_zeq2, e_zne1, e_zne2, e_feq1, e_fne1, e_feq2, e_fne2, e_seq, e_sne, e_ta1, e_ta2, Nat.zero_add, Nat.add_zero, Bool.not_true, Bool.not_false] at hK ⊢
    cases h2 : (st == 2) with
    | true => rw [h2] at hK; simp only [Bool.true_or, h2, e_fd, e_nck, e_pkt, e_pkf, e_gdtt, e_gdtf, e_gdft, e_gdff, e_ift, e_iff, e_not, e_ln, e_lnT, e_cp, e_cvi, e_ex20, e_ex21, e_ex30, e_ex31, e_ex32, e_add, e_sub, e_mul, e_quo, e_rem, e_and, e_or, e_xor, e_shl, e_shr, e_eql, e_neq, e_lss, e_leq, e_gtr, e_geq, e_beq, e_bne, e_peq1, e_peq2, e_pne1, e_pne2, e_zeq1, e_zeq2, e_zne1, e_zne2, e_feq1, e_fne1, e_feq2, e_fne2, e_seq, e_sne, e_ta1, e_ta2, Nat.zero_add, Nat.add_zero, Bool.not_true, Bool.not_false] at hK ⊢; exact hK
    | false =>
      rw [h2] at hK
      simp only [Bool.false_or, h2, e_fd, e_nck, e_pkt, e_pkf, e_gdtt, e_gdtf, e_gdft, e_gdff, e_ift, e_iff, e_not, e_ln, e_lnT, e_cp, e_cvi, e_ex20, e_ex21, e_ex30, e_ex31, e_ex32, e_add, e_sub, e_mul, e_quo, e_rem, e_and, e_or, e_xor, e_shl, e_shr, e_eql, e_neq, e_lss, e_leq, e_gtr, e_geq, e_beq, e_bne, e_peq1, e_peq2, e_pne1, e_pne2, e_zeq1, e_zeq2, e_zne1, e_zne2, e_feq1, e_fne1, e_feq2, e_fne2, e_seq, e_sne, e_ta1, e_ta2, Nat.zero_add, Nat.add_zero, Bool.not_true, Bool.not_false] at hK ⊢
      cases h3 : (st == 3) with
      | true => rw [h3] at hK; simp only [Bool.true_or, h3, e_fd, e_nck, e_pkt, e_pkf, e_gdtt, e_gdtf, e_gdft, e_gdff, e_ift, e_iff, e_not, e_ln, e_lnT, e_cp, e_cvi, e_ex20, e_ex21, e_ex30, e_ex31, e_ex32, e_add, e_sub, e_mul, e_quo, e_rem, e_and, e_or, e_xor, e_shl, e_shr, e_eql, e_neq, e_lss, e_leq, e_gtr, e_geq, e_beq, e_bne, e_peq1, e_peq2, e_pne1, e_pne2, e_zeq1, e_zeq2, e_zne1, e_zne2, e_feq1, e_fne1, e_feq2, e_fne2, e_seq, e_sne, e_ta1, e_ta2, Nat.zero_add, Nat.add_zero, Bool.not_true, Bool.not_false] at hK ⊢; exact hK
      | false =>
        rw [h3] at hK
        simp only [Bool.false_or, h3, e_fd, e_nck, e_pkt, e_pkf, e_gdtt, e_gdtf, e_gdft, e_gdff, e_ift, e_iff, e_not, e_ln, e_lnT, e_cp, e_cvi, e_ex20, e_ex21, e_ex30, e_ex31, e_ex32, e_add, e_sub, e_mul, e_quo, e_rem, e_and, e_or, e_xor, e_shl, e_shr, e_eql, e_neq, e_lss, e_leq, e_gtr, e_geq, e_beq, e_bne, e_peq1, e_peq2, e_pne1, e_pne2, e_zeq1, e_zeq2, e_zne1, e_zne2, e_feq1, e_fne1, e_feq2, e_fne2, e_seq, e_sne, e_ta1, e_ta2, Nat.zero_add, Nat.add_zero, Bool.not_true, Bool.not_false] at hK ⊢
        cases h4 : (st == 8) with
        | true => rw [h4] at hK; simp only [h4, e_fd, e_nck, e_pkt, e_pkf, e_gdtt, e_gdtf, e_gdft, e_gdff, e_ift, e_iff, e_not, e_ln, e_lnT, e_cp, e_cvi, e_ex20, e_ex21, e_ex30, e_ex31, e_ex32, e_add, e_sub, e_mul, e_quo, e_rem, e_and, e_or, e_xor, e_shl, e_shr, e_eql, e_neq, e_lss, e_leq, e_gtr, e_geq, e_beq, e_bne, e_peq1, e_peq2, e_pne1, e_pne2, e_zeq1, e_zeq2, e_zne1, e_zne2, e_feq1, e_fne1, e_feq2, e_fne2, e_seq, e_sne, e_ta1, e_ta2, Nat.zero_add, Nat.add_zero, Bool.not_true, Bool.not_false] at hK ⊢; exact hK
        | false =>
          rw [h4] at hK
          simp only [h4, e_fd, e_nck, e_pkt, e_pkf, e_gdtt, e_gdtf, e_gdft, e_gdff, e_ift, e_iff, e_not, e_ln, e_lnT, e_cp, e_cvi, e_ex20, e_ex21, e_ex30, e_ex31, e_ex32, e_add, e_sub, e_mul, e_quo, e_rem, e_and, e_or, e_xor, e_shl, e_shr, e_eql, e_neq, e_lss, e_leq, e_gtr, e_geq, e_beq, e_bne, e_peq1, e_peq2, e_pne1, e_pne2, e_zeq1, e_zeq2, e_zne1, e_zne2, e_feq1, e_fne1, e_feq2, e_fne2, e_seq, e_sne, e_ta1, e_ta2, Nat.zero_add, Nat.add_zero, Bool.not_true, Bool.not_false] at hK ⊢
          unfold s193_p1
          exact hK
set_option maxHeartbeats 4000000 in
theorem occM_ok {n : Nat} {slot : Int} (hn : n < 3) (hsl : 0 ≤ slot ∧ slot ≤ 1000000) (h : Mr F w m s) (hv : Vk s.rs) (hK : ∀ w', Kp Emp w w' → K (I (inside park s.rs (n : Nat) slot 0)) w') : cl Tryz.prog 155 #[P m 0, I (n : Nat), I slot] K w := by
  have hB := hv.rb
  have hlen := hv.len
  obtain ⟨va, vt, rv, lv, rm, hcg, hr, hls⟩ := h
  obtain ⟨va', vt', ec, ha, _⟩ := hcg.ex
  have eva : va' = va := by
    have := congrArg (fun l => l[0]?) ec
    exact (Option.some.inj this).symm
  subst eva
  apply c155
  unfold s155_p12
  refine nk0 (fdp (ld1_r (v := rv) rm rfl ?_))
  refine hr.ln ?_
  generalize hrs : s.rs = rs at *
  obtain ⟨its, e1, hA, e4⟩ := hr
  have hil : its.length = rs.length := by rw [← e1, List.length_map]
  have bnd := fun i => part_b (g := recIn park (n : Nat) slot 0) (by omega : rs.length ≤ 16777216) (fun r hr => recIn_b (hB r hr)) i
  have hal : n < park.ats.length := hn
  have ed := dwell_at (C := park) hal
  have hd : 0 ≤ park.ats[n].dw ∧ park.ats[n].dw ≤ 100 := (show ∀ a ∈ park.ats, 0 ≤ a.dw ∧ a.dw ≤ 100 by decide) _ (List.getElem_mem hal)
  unfold s155_p11
  refine loop_n rs.length (fun i l w' => l = [P m 0, I (n : Nat), I slot, I ((rs.take i).map (recIn park (n : Nat) slot 0)).sum, rv, I (rs.length : Nat), I (i : Nat)] ∧ Kp Emp w w') ⟨rfl, Kp.refl _ _⟩ ?_ ?_
  · rintro i l w1 hi ⟨rfl, k1⟩ B hB1
    rw [s155_p11_Fe]
    unfold s155_p10
    simp only [dlt hi, e_lss, e_ift]
    unfold s155_p9
    have hi2 : i < its.length := by omega
    have ei : its[i].1 = rs[i] := by
      have : (its.map (·.1))[i]? = rs[i]? := by rw [e1]
      rw [List.getElem?_map, List.getElem?_eq_getElem hi2, List.getElem?_eq_getElem hi] at this
      exact Option.some.inj this
    have hlg := e4 _ (List.getElem_mem hi2)
    have rb := hB _ (List.getElem_mem hi)
    have hidi := hv.id _ (List.getElem_mem hi)
    refine each_r rfl (hA.kp' k1) hi2 (rC_len _) (rC_sc hlg.scal) fun w2 r2 hk2 hz2 => ?_
    generalize its[i] = p at ei hlg r2
    have k2 := k1.trans hk2
    have b1 := bnd i
    have b2 := bnd (i + 1)
    rw [sum_take hi] at b2
    have hsk : (rs[i].id == 0) = false := by rw [beq_eq_false_iff_ne]; exact hidi
    have nxt : ∀ w3 x, Kp Emp w w3 → x = ((rs.take i).map (recIn park (n : Nat) slot 0)).sum + recIn park (n : Nat) slot 0 rs[i] → s155_p2 K B (P m 0) (I (n : Nat)) (I slot) (I x) rv (I (rs.length : Nat)) (I (i : Nat)) w3 := by
      intro w3 x k3 hx
      unfold s155_p2
      simp only [e_add]
      rw [inc i (by omega)]
      exact hB1 _ _ ⟨by rw [hx, sum_take hi], k3⟩
    refine fdp (ld1_r (v := p.2) r2 rfl ?_)
    refine hlg.ln ?_
    rw [ei]
    rw [ei] at hlg
    have hll := rb.ll
    -- a leg counts if the record is alive
    have erec : recIn park (n : Nat) slot 0 rs[i] = sumL (fun l => live rs[i].st && legIn park (n : Nat) slot l) rs[i].sz rs[i].legs := by
      unfold recIn
      rw [hsk]
      cases hlv : live rs[i].st with
      | true => simp
      | false =>
        have e : sumL (fun l => false && legIn park (n : Nat) slot l) rs[i].sz rs[i].legs = 0 := sumL_no fun l _ => rfl
        rw [e]
        rfl
    unfold s155_p8
    refine loop_n rs[i].legs.length (fun k l w' => l = [P m 0, I (n : Nat), I slot, I (((rs.take i).map (recIn park (n : Nat) slot 0)).sum + sumL (fun l => live rs[i].st && legIn park (n : Nat) slot l) rs[i].sz (rs[i].legs.take k)), P w1.heap.size 0, rv, I (rs.length : Nat), I (i : Nat), p.2, I (rs[i].legs.length : Nat), I (k : Nat)] ∧ Kp Emp w w' ∧ Row w' w1.heap.size 85 (rC p)) ⟨by simp [sumL], k2, r2⟩ ?_ ?_
    · rintro k l w3 hk ⟨rfl, k3, r3⟩ B2 hB2
      rw [s155_p8_Fe]
      unfold s155_p7
      simp only [dlt hk, e_lss, e_ift]
      unfold s155_p6
      refine each_r rfl (hlg.kp' k3) hk (lC_len _) (lC_sc _) fun w4 r4 hk4 hz4 => ?_
      have r34 := hk4.row' r3
      have k4 := k3.trans hk4
      have b3 := sumL_b8 (p := fun l => live rs[i].st && legIn park (n : Nat) slot l) rb k
      have b4 := sumL_b8 (p := fun l => live rs[i].st && legIn park (n : Nat) slot l) rb (k + 1)
      rw [sumL_take hk] at b4
      obtain ⟨s0, s1⟩ := rb.lg _ (List.getElem_mem hk)
      have fin : ∀ w5, Kp Emp w4 w5 → ∀ c : Bool, c = (live rs[i].st && legIn park (n : Nat) slot rs[i].legs[k]) → s155_p4 K B B2 (P m 0) (I (n : Nat)) (I slot) (I (((rs.take i).map (recIn park (n : Nat) slot 0)).sum + sumL (fun l => live rs[i].st && legIn park (n : Nat) slot l) rs[i].sz (rs[i].legs.take k))) (P w1.heap.size 0) rv (I (rs.length : Nat)) (I (i : Nat)) p.2 (I (rs[i].legs.length : Nat)) (I (k : Nat)) (.bool c) w5 := by
        intro w5 k5 c hc
        have r35 := k5.row' r34
        have k5' := k4.trans k5
        unfold s155_p4
        cases c with
        | true =>
          refine sw_t ?_
          refine fdp (ld1_r (v := I p.1.sz) r35 rfl ?_)
          simp only [e_add]
          rw [ei]
          rw [← hc] at b4
          have s0 := rb.s0
          have s1 := rb.s1
          rw [wrap64_id (by omega) (by omega)]
          unfold s155_p3
          simp only [e_add]
          rw [inc k (by omega)]
          refine hB2 _ _ ⟨by rw [sumL_take hk, ← hc]; simp only [if_true]; rw [Int.add_assoc], k5', r35⟩
        | false =>
          refine sw_f ?_
          unfold s155_p3
          simp only [e_add]
          rw [inc k (by omega)]
          refine hB2 _ _ ⟨by rw [sumL_take hk, ← hc]; simp, k5', r35⟩
      unfold s155_p5
      have kd : Kp Emp w4 (drw w4) := kp_drw
      generalize drw w4 = wd at kd ⊢
      refine ⟨fun w' => Kp Emp wd w', Kp.refl _ _, ?_⟩
      unfold s155_p5_d
      have rd := kd.row' r34
      have rl := kd.row' r4
      have hlin : legIn park (n : Nat) slot rs[i].legs[k] = (rs[i].legs[k].a == ((n : Nat) : Int) && (decide (rs[i].legs[k].s ≤ slot) && decide (slot < rs[i].legs[k].s + park.ats[n].dw))) := by
        unfold legIn
        rw [ed]
      have last42 : ∀ t44 t46 t51 : Value, True := fun _ _ _ => trivial
      refine fdp (qj_v (v := I p.1.st) (fun w5 hJ => ld1_r (hJ.row' rd) rfl ⟨rfl, hJ⟩) ?_)
      refine qj_v (v := .bool (live p.1.st)) (fun w5 hJ => aliveM_ok ⟨rfl, hJ⟩) ?_
      rw [ei]
      -- the three tests, false or true
      have f42 : (live rs[i].st && legIn park (n : Nat) slot rs[i].legs[k]) = false → gd (.bool false) true (fun K w => K (I slot) w) (fun t44 _ => gd (.bool false) true (fd 1 (P w3.heap.size 0)) (fun t45 _ => Go.Sh.V.qj (fun w' => Kp Emp wd w') (gd (.bool false) true (ld1 t45)) (fun t46 => gd (.bool false) true (fun K w => K (P m 0) w) (fun t47 _ => gd (.bool false) true (nck t47) (fun t48 _ => gd (.bool false) true (fd 0 t48) (fun t49 _ => gd (.bool false) true (fd 0 t49) (fun t50 _ => Go.Sh.V.qj (fun w' => Kp Emp wd w') (gd (.bool false) true (ld1 t50)) (fun t51 => gd (.bool false) true (fun K w => K (I (n : Nat)) w) (fun t52 _ => gd (.bool false) true (ixs 5 t51 t52) (fun t53 _ => gd (.bool false) true (fd 1 t53) (fun t54 _ => Go.Sh.V.qj (fun w' => Kp Emp wd w') (gd (.bool false) true (ld1 t54)) (fun t55 => gd (.bool false) true (boI .add t46 t55) (fun t56 _ => gd (.bool false) true (boI .lss t44 t56) (fun t57 _ => pk (.bool false) t57 (.bool false) (fun t58 _ => ∀ w, (fun w' => Kp Emp wd w') w → s155_p4 K B B2 (P m 0) (I (n : Nat)) (I slot) (I (((rs.take i).map (recIn park (n : Nat) slot 0)).sum + sumL (fun l => live rs[i].st && legIn park (n : Nat) slot l) rs[i].sz (rs[i].legs.take k))) (P w1.heap.size 0) rv (I (rs.length : Nat)) (I (i : Nat)) p.2 (I (rs[i].legs.length : Nat)) (I (k : Nat)) t58 w) wd) wd) wd)) wd) wd) wd)) wd) wd) wd) wd)) wd) wd := by
        intro hf
        refine g_f1 (g_f1 (qj_f ?_))
        refine g_f1 (g_f1 (g_f1 (g_f1 (qj_f ?_))))
        refine g_f1 (g_f1 (g_f1 (qj_f ?_)))
        refine g_f1 (g_f1 (p_k0 ?_))
        intro w5 hJ
        exact fin w5 (kd.trans hJ) false hf.symm
      cases hlv : live rs[i].st with
      | false =>
        rw [hlv] at f42
        refine g_f1 (qj_f ?_)
        refine g_f1 (g_f1 (p_k0 ?_))
        refine g_f1 (qj_f ?_)
        refine g_f1 (g_f1 (p_k0 ?_))
        rw [hlv] at fin
        exact f42 rfl
      | true =>
        refine g_t1 (fdp (qj_t (v := I rs[i].legs[k].a) (fun w5 hJ => ld1_r (hJ.row' rl) rfl ⟨rfl, hJ⟩) ?_))
        refine g_t1 (g_t1 ?_)
        simp only [e_eql]
        cases ha1 : (rs[i].legs[k].a == ((n : Nat) : Int)) with
        | false =>
          refine p_k1 ?_
          refine g_f1 (qj_f ?_)
          refine g_f1 (g_f1 (p_k0 ?_))
          have := f42 (by rw [hlin, ha1]; simp)
          rw [hlv] at this
          exact this
        | true =>
          refine p_k1 ?_
          refine g_t1 (fdp (qj_t (v := I rs[i].legs[k].s) (fun w5 hJ => ld1_r (hJ.row' rl) rfl ⟨rfl, hJ⟩) ?_))
          refine g_t1 (g_t1 ?_)
          simp only [e_leq]
          by_cases hs1 : rs[i].legs[k].s ≤ slot
          · rw [decide_eq_true hs1]
            refine p_k1 ?_
            refine g_t1 (g_t1 (fdp (qj_t (v := I rs[i].legs[k].s) (fun w5 hJ => ld1_r (hJ.row' rl) rfl ⟨rfl, hJ⟩) ?_)))
            refine g_t1 (g_t1 (nk0 (g_t1 (fdp (g_t1 (fdp ?_))))))
            have rmd := (k4.trans kd).row' rm
            refine qj_t (v := va') (fun w5 hJ => ld1_r (hJ.row' rmd) rfl ⟨rfl, hJ⟩) ?_
            refine g_t1 (g_t1 ?_)
            refine (ha.kp' (k4.trans kd)).ix hal fun b o _ hcc => ?_
            refine g_t1 ?_
            simp only [e_fd]
            refine qj_t (v := I park.ats[n].dw) (fun w5 hJ => (hcc.kp' hJ).ld1 (j := 1) rfl ⟨rfl, hJ⟩) ?_
            refine g_t1 ?_
            simp only [e_add]
            rw [wrap64_id (by omega) (by omega)]
            refine g_t1 ?_
            simp only [e_lss]
            refine p_k1 ?_
            intro w5 hJ
            have := fin w5 (kd.trans hJ) (decide (slot < rs[i].legs[k].s + park.ats[n].dw)) (by rw [hlv, hlin, ha1, decide_eq_true hs1]; simp)
            rw [hlv] at this
            exact this
          · rw [decide_eq_false hs1]
            refine p_k1 ?_
            have := f42 (by rw [hlin, decide_eq_false hs1]; simp)
            rw [hlv] at this
            exact this
    · rintro l w3 ⟨rfl, k3, r3⟩ B2
      rw [s155_p8_Fe]
      unfold s155_p7
      simp only [dnlt, e_lss, e_iff]
      rw [List.take_length]
      exact nxt w3 _ k3 (by rw [erec])
  · rintro l w1 ⟨rfl, k1⟩ B
    rw [s155_p11_Fe]
    unfold s155_p10
    simp only [dnlt, e_lss, e_iff]
    unfold s155_p1
    rw [List.take_length]
    exact hK w1 k1
end
end Go.Proofs.Qxb6500896aGreat
