import Derived.Test.Qxb6500896aGreatM1
namespace Go.Proofs.Qxb6500896aGreat
open Go.Sh Go.RowKit
set_option linter.unusedVariables false
set_option linter.unusedSimpArgs false

def endN : Nat := 44 + (park.ats.map fun a => a.dw.toNat).sum
def capH (rs : List Rec) : Bool := (List.range 3).all fun a => (List.range (endN + 1)).all fun x => decide (inside park rs (a : Nat) (x : Nat) 0 ≤ (attOf park (a : Nat)).cap)
def quoH (rs : List Rec) : Bool := (List.range 3).all fun a => (List.range (endN + 1)).all fun x => (List.range 3).all fun c => decide (entered rs (a : Nat) (x : Nat) (c : Nat) 0 ≤ attQ (attOf park (a : Nat)) (c : Nat))
def traH (rs : List Rec) : Bool := rs.all fun r => !(live r.st) || trLegs park r.legs
def verd (rs : List Rec) : Int := if capH rs = true then (if quoH rs = true then (if traH rs = true then 0 else 7) else 6) else 5
theorem endN_v : endN ≤ 1000 := by decide
section
variable {F : Nat → Prop} {w w' w1 : World} {K : Value → World → Prop} {m : Nat} {s : Ms} {st : Int}
/-- the parts of a model -/
theorem Mr.parts (h : Mr F w m s) : ∃ va vt rv lv, Row w m 119 (park.cells va vt ++ [I s.now, rv, lv]) ∧ Ar Att.cells 5 F w va park.ats ∧ Rws F w vt park.tr ∧ Ro F w rv s.rs ∧ Rws F w lv s.ls := by
  obtain ⟨va, vt, rv, lv, rm, hcg, hr, hls⟩ := h
  obtain ⟨va', vt', ec, ha, ht⟩ := hcg.ex
  have e1 : va' = va := by
    have := congrArg (fun l => l[0]?) ec
    exact (Option.some.inj this).symm
  have e2 : vt' = vt := by
    have := congrArg (fun l => l[1]?) ec
    exact (Option.some.inj this).symm
  subst e1 e2
  exact ⟨va', vt', rv, lv, rm, ha, ht, hr, hls⟩
set_option maxHeartbeats 2000000 in
theorem entM_ok {attr slot cls : Int} (h : Mr F w m s) (hv : Vk s.rs) (hK : ∀ w', Kp Emp w w' → K (I (entered s.rs attr slot cls 0)) w') : cl Tryz.prog 156 #[P m 0, I attr, I slot, I cls] K w := by
  have hB := hv.rb
  have hlen := hv.len
  obtain ⟨va, vt, rv, lv, rm, _, _, hr, _⟩ := h.parts
  apply c156
  unfold s156_p9
  refine nk0 (fdp (ld1_r (v := rv) rm rfl ?_))
  refine hr.ln ?_
  generalize hrs : s.rs = rs at *
  obtain ⟨its, e1, hA, e4⟩ := hr
  have hil : its.length = rs.length := by rw [← e1, List.length_map]
  have bnd := fun i => part_b (g := recAt attr slot cls 0) (by omega : rs.length ≤ 16777216) (fun r hr => recAt_b (hB r hr)) i
  unfold s156_p8
  refine loop_n rs.length (fun i l w' => l = [I attr, I slot, I cls, I ((rs.take i).map (recAt attr slot cls 0)).sum, rv, I (rs.length : Nat), I (i : Nat)] ∧ Kp Emp w w') ⟨rfl, Kp.refl _ _⟩ ?_ ?_
  · rintro i l w1 hi ⟨rfl, k1⟩ B hB1
    rw [s156_p8_Fe]
    unfold s156_p7
    simp only [dlt hi, e_lss, e_ift]
    unfold s156_p6
    have hi2 : i < its.length := by omega
    have ei : its[i].1 = rs[i] := by
      have : (its.map (·.1))[i]? = rs[i]? := by rw [e1]
      rw [List.getElem?_map, List.getElem?_eq_getElem hi2, List.getElem?_eq_getElem hi] at this
      exact Option.some.inj this
    have hlg := e4 _ (List.getElem_mem hi2)
    have rb := hB _ (List.getElem_mem hi)
    have hidi := hv.id _ (List.getElem_mem hi)
    refine each_r rfl (hA.kp' k1) hi2 (rC_len _) (rC_sc hlg.scal) fun w2 r2 hk2 hz2 => ?_
    generalize its[i] = p at ei hlg r2
    have k2 := k1.trans hk2
    have b1 := bnd i
    have b2 := bnd (i + 1)
    rw [sum_take hi] at b2
    have hsk : (rs[i].id == 0) = false := by rw [beq_eq_false_iff_ne]; exact hidi
    refine fdp (ld1_r (v := p.2) r2 rfl ?_)
    refine hlg.ln ?_
    rw [ei]
    rw [ei] at hlg
    have hll := rb.ll
    have erec : recAt attr slot cls 0 rs[i] = sumL (fun l => (live rs[i].st && rs[i].cl == cls) && legAt attr slot l) rs[i].sz rs[i].legs := by
      unfold recAt
      rw [hsk]
      cases hlv : (live rs[i].st && rs[i].cl == cls) with
      | true => simp only [Bool.and_eq_true] at hlv; simp [hlv.1, hlv.2]
      | false =>
        have e : sumL (fun l => false && legAt attr slot l) rs[i].sz rs[i].legs = 0 := sumL_no fun l _ => rfl
        rw [e]
        have : (live rs[i].st && !false && rs[i].cl == cls) = false := by simpa using hlv
        rw [this]
        rfl
    unfold s156_p5
    refine loop_n rs[i].legs.length (fun k l w' => l = [I attr, I slot, I cls, I (((rs.take i).map (recAt attr slot cls 0)).sum + sumL (fun l => (live rs[i].st && rs[i].cl == cls) && legAt attr slot l) rs[i].sz (rs[i].legs.take k)), P w1.heap.size 0, rv, I (rs.length : Nat), I (i : Nat), p.2, I (rs[i].legs.length : Nat), I (k : Nat)] ∧ Kp Emp w w' ∧ Row w' w1.heap.size 85 (rC p)) ⟨by simp [sumL], k2, r2⟩ ?_ ?_
    · rintro k l w3 hk ⟨rfl, k3, r3⟩ B2 hB2
      rw [s156_p5_Fe]
      unfold s156_p4
      simp only [dlt hk, e_lss, e_ift]
      refine each_r rfl (hlg.kp' k3) hk (lC_len _) (lC_sc _) fun w4 r4 hk4 hz4 => ?_
      have r34 := hk4.row' r3
      have k4 := k3.trans hk4
      have b3 := sumL_b8 (p := fun l => (live rs[i].st && rs[i].cl == cls) && legAt attr slot l) rb k
      have b4 := sumL_b8 (p := fun l => (live rs[i].st && rs[i].cl == cls) && legAt attr slot l) rb (k + 1)
      rw [sumL_take hk] at b4
      have yes : ((live rs[i].st && rs[i].cl == cls) && legAt attr slot rs[i].legs[k]) = true → fd 3 (P w1.heap.size 0) (fun t52 w => ld1 t52 (fun t53 w => boI .add (I (((rs.take i).map (recAt attr slot cls 0)).sum + sumL (fun l => (live rs[i].st && rs[i].cl == cls) && legAt attr slot l) rs[i].sz (rs[i].legs.take k))) t53 (fun t54 w => s156_p3 K B B2 (I attr) (I slot) (I cls) t54 (P w1.heap.size 0) rv (I (rs.length : Nat)) (I (i : Nat)) p.2 (I (rs[i].legs.length : Nat)) (I (k : Nat)) w) w) w) w4 := by
        intro hc
        refine fdp (ld1_r (v := I p.1.sz) r34 rfl ?_)
        simp only [e_add]
        rw [ei]
        rw [hc] at b4
        have s0 := rb.s0
        have s1 := rb.s1
        rw [wrap64_id (by omega) (by omega)]
        unfold s156_p3
        simp only [e_add]
        rw [inc k (by omega)]
        refine hB2 _ _ ⟨by rw [sumL_take hk, hc]; simp only [if_true]; rw [Int.add_assoc], k4, r34⟩
      have no : ((live rs[i].st && rs[i].cl == cls) && legAt attr slot rs[i].legs[k]) = false → s156_p3 K B B2 (I attr) (I slot) (I cls) (I (((rs.take i).map (recAt attr slot cls 0)).sum + sumL (fun l => (live rs[i].st && rs[i].cl == cls) && legAt attr slot l) rs[i].sz (rs[i].legs.take k))) (P w1.heap.size 0) rv (I (rs.length : Nat)) (I (i : Nat)) p.2 (I (rs[i].legs.length : Nat)) (I (k : Nat)) w4 := by
        intro hc
        unfold s156_p3
        simp only [e_add]
        rw [inc k (by omega)]
        refine hB2 _ _ ⟨by rw [sumL_take hk, hc]; simp, k4, r34⟩
      have elg : legAt attr slot rs[i].legs[k] = (rs[i].legs[k].a == attr && rs[i].legs[k].s == slot) := rfl
      rw [elg] at yes no
      refine fdp (ld1_r (v := I p.1.st) r34 rfl ?_)
      refine aliveM_ok ?_
      rw [ei]
      generalize live rs[i].st = lvv at yes no ⊢
      cases lvv with
      | false =>
        simp only [e_gdft, e_pkf, e_iff]
        exact no (by simp)
      | true =>
        simp only [e_gdtt]
        refine fdp (ld1_r (v := I p.1.cl) r34 rfl ?_)
        simp only [e_gdtt, e_eql, e_pkt]
        rw [ei]
        generalize (rs[i].cl == cls) = c1 at yes no ⊢
        cases c1 with
        | false =>
          simp only [e_gdft, e_pkf, e_iff]
          exact no (by simp)
        | true =>
          simp only [e_gdtt]
          refine fdp (ld1_r (v := I rs[i].legs[k].a) r4 rfl ?_)
          simp only [e_gdtt, e_eql, e_pkt]
          generalize (rs[i].legs[k].a == attr) = c2 at yes no ⊢
          cases c2 with
          | false =>
            simp only [e_gdft, e_pkf, e_iff]
            exact no (by simp)
          | true =>
            simp only [e_gdtt]
            refine fdp (ld1_r (v := I rs[i].legs[k].s) r4 rfl ?_)
            simp only [e_gdtt, e_eql, e_pkt]
            generalize (rs[i].legs[k].s == slot) = c3 at yes no ⊢
            cases c3 with
            | false =>
              simp only [e_iff]
              exact no (by simp)
            | true =>
              simp only [e_ift]
              exact yes (by simp)
    · rintro l w3 ⟨rfl, k3, r3⟩ B2
      rw [s156_p5_Fe]
      unfold s156_p4
      simp only [dnlt, e_lss, e_iff]
      rw [List.take_length]
      unfold s156_p2
      simp only [e_add]
      rw [inc i (by omega)]
      exact hB1 _ _ ⟨by rw [sum_take hi, erec], k3⟩
  · rintro l w1 ⟨rfl, k1⟩ B
    rw [s156_p8_Fe]
    unfold s156_p7
    simp only [dnlt, e_lss, e_iff]
    unfold s156_p1
    rw [List.take_length]
    exact hK w1 k1
/-- beyond every stay -/
theorem endM_ok (h : Mr F w m s) (hK : ∀ w', Kp Emp w w' → K (I (endN : Nat)) w') : cl Tryz.prog 227 #[P m 0] K w := by
  obtain ⟨va, vt, rv, lv, rm, ha, _, _, _⟩ := h.parts
  apply c227
  unfold s227_p6 s227_p5 s227_p5_d
  have kd : Kp Emp w (drw w) := kp_drw
  generalize drw w = wd at kd ⊢
  have rmd := kd.row' rm
  refine nk0 (fdp (fdp (ld1_r (v := I 36) rmd rfl ?_)))
  refine nk0 (fdp (fdp (ld1_r (v := I 8) rmd rfl ?_)))
  simp only [e_add]
  unfold s227_p4
  refine nk0 (fdp (fdp (ld1_r (v := va) rmd rfl ?_)))
  refine ha.ln ?_
  unfold s227_p3
  refine loop_n park.ats.length (fun i l w' => l = [I ((44 + ((park.ats.take i).map fun a => a.dw.toNat).sum : Nat) : Int), va, I (park.ats.length : Nat), I (i : Nat)] ∧ Kp Emp w w') ⟨rfl, kd⟩ ?_ ?_
  · rintro i l w1 hi ⟨rfl, k1⟩ B hB
    rw [s227_p3_Fe]
    unfold s227_p2
    simp only [dlt hi, e_lss, e_ift]
    refine each_r rfl (ha.kp' k1) hi rfl rfl fun w2 r2 hk2 hz2 => ?_
    refine fdp (ld1_r (v := I park.ats[i].dw) r2 rfl ?_)
    have hi3 : i < 3 := hi
    simp only [e_add]
    refine hB _ _ ⟨?_, k1.trans hk2⟩
    have : i = 0 ∨ i = 1 ∨ i = 2 := by omega
    rcases this with rfl | rfl | rfl <;> rfl
  · rintro l w1 ⟨rfl, k1⟩ B
    rw [s227_p3_Fe]
    unfold s227_p2
    simp only [dnlt, e_lss, e_iff]
    unfold s227_p1
    rw [List.take_length]
    exact hK w1 k1
set_option maxHeartbeats 1000000 in
theorem capM_ok (h : Mr F w m s) (hv : Vk s.rs) (hK : ∀ w', Kp Emp w w' → K (.bool (capH s.rs)) w') : cl Tryz.prog 190 #[P m 0] K w := by
  have he := endN_v
  obtain ⟨va, vt, rv, lv, rm, ha, _, _, _⟩ := h.parts
  apply c190
  unfold s190_p11
  refine nk0 (fdp (fdp (ld1_r (v := va) rm rfl ?_)))
  refine ha.ln ?_
  unfold s190_p10
  refine loop_n 3 (fun i l w' => l = [P m 0, I (3 : Nat), I (i : Nat)] ∧ Kp Emp w w' ∧ (List.range i).all (fun a => (List.range (endN + 1)).all fun x => decide (inside park s.rs (a : Nat) (x : Nat) 0 ≤ (attOf park (a : Nat)).cap)) = true) ⟨rfl, Kp.refl _ _, rfl⟩ ?_ ?_
  · rintro i l w1 hi ⟨rfl, k1, hall⟩ B hB
    rw [s190_p10_Fe]
    unfold s190_p9
    simp only [dlt hi, e_lss, e_ift]
    unfold s190_p8 s190_p7
    have hal : i < park.ats.length := hi
    have ea := attOf_at (C := park) hal
    refine loop_n (endN + 1) (fun x l w' => l = [P m 0, I (i : Nat), I (x : Nat), I (3 : Nat), I (i : Nat)] ∧ Kp Emp w w' ∧ (List.range x).all (fun x => decide (inside park s.rs (i : Nat) (x : Nat) 0 ≤ (attOf park (i : Nat)).cap)) = true) ⟨rfl, k1, rfl⟩ ?_ ?_
    · rintro x l w2 hx ⟨rfl, k2, hall2⟩ B2 hB2
      rw [s190_p7_Fe]
      unfold s190_p6
      refine endM_ok (h.kp' k2) fun w3 k3 => ?_
      have k3' := k2.trans k3
      simp only [e_leq, decide_eq_true (show ((x : Nat) : Int) ≤ ((endN : Nat) : Int) by omega), e_ift]
      unfold s190_p5 s190_p5_d
      have kd : Kp Emp w3 (drw w3) := kp_drw
      generalize drw w3 = wd at kd ⊢
      have kd' := k3'.trans kd
      refine nk0 (fdp (fdp (ld1_r (v := va) (kd'.row' rm) rfl ?_)))
      refine (ha.kp' kd').ix hal fun b o _ hcc => ?_
      simp only [e_fd]
      refine hcc.ld1 (j := 0) (v := I park.ats[i].cap) rfl ?_
      refine occM_ok hi ⟨by omega, by omega⟩ (h.kp' kd') hv fun w4 k4 => ⟨k4.below', ?_⟩
      have k4' := kd'.trans k4
      simp only [e_gtr]
      unfold s190_p4
      by_cases hgt : park.ats[i].cap < inside park s.rs (i : Nat) (x : Nat) 0
      · simp only [decide_eq_true hgt, e_ift]
        have : capH s.rs = false := by
          unfold capH
          rw [List.all_eq_false]
          refine ⟨i, List.mem_range.2 hi, ?_⟩
          rw [Bool.not_eq_true, List.all_eq_false]
          exact ⟨x, List.mem_range.2 hx, by rw [ea]; simp; omega⟩
        rw [this] at hK
        exact hK w4 k4'
      · simp only [decide_eq_false hgt, e_iff]
        unfold s190_p3
        simp only [e_add]
        rw [inc x (by omega)]
        refine hB2 _ _ ⟨rfl, k4', ?_⟩
        rw [List.range_succ, List.all_append, hall2]
        simp only [List.all_cons, List.all_nil, Bool.and_true, Bool.true_and, ea]
        simp
        omega
    · rintro l w2 ⟨rfl, k2, hall2⟩ B2
      rw [s190_p7_Fe]
      unfold s190_p6
      refine endM_ok (h.kp' k2) fun w3 k3 => ?_
      simp only [e_leq, decide_eq_false (show ¬ ((endN + 1 : Nat) : Int) ≤ ((endN : Nat) : Int) by omega), e_iff]
      unfold s190_p2
      simp only [e_add]
      rw [inc i (by omega)]
      refine hB _ _ ⟨rfl, k2.trans k3, ?_⟩
      rw [List.range_succ, List.all_append, hall]
      simp only [List.all_cons, List.all_nil, Bool.and_true, Bool.true_and]
      exact hall2
  · rintro l w1 ⟨rfl, k1, hall⟩ B
    rw [s190_p10_Fe]
    unfold s190_p9
    simp only [dnlt, e_lss, e_iff]
    unfold s190_p1
    rw [show capH s.rs = true from hall] at hK
    exact hK w1 k1
end
end Go.Proofs.Qxb6500896aGreat
