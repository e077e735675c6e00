import Derived.Test.Qxb6500896aGreatM2
namespace Go.Proofs.Qxb6500896aGreat
open Go.Sh Go.RowKit
set_option linter.unusedVariables false
set_option linter.unusedSimpArgs false

section
variable {F : Nat → Prop} {w w' w1 : World} {K : Value → World → Prop} {m : Nat} {s : Ms} {st : Int}
set_option maxHeartbeats 1000000 in
theorem quoM_ok (h : Mr F w m s) (hv : Vk s.rs) (hK : ∀ w', Kp Emp w w' → K (.bool (quoH s.rs)) w') : cl Tryz.prog 191 #[P m 0] K w := by
  have he := endN_v
  obtain ⟨va, vt, rv, lv, rm, ha, _, _, _⟩ := h.parts
  apply c191
  unfold s191_p15
  refine nk0 (fdp (fdp (ld1_r (v := va) rm rfl ?_)))
  refine ha.ln ?_
  unfold s191_p14
  refine loop_n 3 (fun i l w' => l = [P m 0, I (3 : Nat), I (i : Nat)] ∧ Kp Emp w w' ∧ (List.range i).all (fun a => (List.range (endN + 1)).all fun x => (List.range 3).all fun c => decide (entered s.rs (a : Nat) (x : Nat) (c : Nat) 0 ≤ attQ (attOf park (a : Nat)) (c : Nat))) = true) ⟨rfl, Kp.refl _ _, rfl⟩ ?_ ?_
  · rintro i l w1 hi ⟨rfl, k1, hall⟩ B hB
    rw [s191_p14_Fe]
    unfold s191_p13
    simp only [dlt hi, e_lss, e_ift]
    unfold s191_p12 s191_p11
    have hal : i < park.ats.length := hi
    have ea := attOf_at (C := park) hal
    refine loop_n (endN + 1) (fun x l w' => l = [P m 0, I (i : Nat), I (x : Nat), I (3 : Nat), I (i : Nat)] ∧ Kp Emp w w' ∧ (List.range x).all (fun x => (List.range 3).all fun c => decide (entered s.rs (i : Nat) (x : Nat) (c : Nat) 0 ≤ attQ (attOf park (i : Nat)) (c : Nat))) = true) ⟨rfl, k1, rfl⟩ ?_ ?_
    · rintro x l w2 hx ⟨rfl, k2, hall2⟩ B2 hB2
      rw [s191_p11_Fe]
      unfold s191_p10
      refine endM_ok (h.kp' k2) fun w3 k3 => ?_
      have k3' := k2.trans k3
      simp only [e_leq, decide_eq_true (show ((x : Nat) : Int) ≤ ((endN : Nat) : Int) by omega), e_ift]
      unfold s191_p9 s191_p8
      refine loop_n 3 (fun c l w' => l = [P m 0, I (i : Nat), I (x : Nat), I (c : Nat), I (3 : Nat), I (i : Nat)] ∧ Kp Emp w w' ∧ (List.range c).all (fun c => decide (entered s.rs (i : Nat) (x : Nat) (c : Nat) 0 ≤ attQ (attOf park (i : Nat)) (c : Nat))) = true) ⟨rfl, k3', rfl⟩ ?_ ?_
      · rintro c l w4 hc ⟨rfl, k4, hall3⟩ B3 hB3
        rw [s191_p8_Fe]
        unfold s191_p7
        simp only [e_lss, decide_eq_true (show ((c : Nat) : Int) < 3 by omega), e_ift]
        unfold s191_p6 s191_p6_d
        have kd : Kp Emp w4 (drw w4) := kp_drw
        generalize drw w4 = wd at kd ⊢
        have kd' := k4.trans kd
        refine nk0 (fdp (fdp (ld1_r (v := va) (kd'.row' rm) rfl ?_)))
        refine (ha.kp' kd').ix hal fun b o _ hcc => ?_
        simp only [e_fd]
        refine cls3 (by omega) (by omega) hcc ?_ (Kp.refl _ _)
        refine entM_ok (h.kp' kd') hv fun w5 k5 => ⟨k5.below', ?_⟩
        have k5' := kd'.trans k5
        simp only [e_gtr]
        unfold s191_p5
        by_cases hgt : attQ park.ats[i] (c : Nat) < entered s.rs (i : Nat) (x : Nat) (c : Nat) 0
        · simp only [decide_eq_true hgt, e_ift]
          have : quoH s.rs = false := by
            unfold quoH
            rw [List.all_eq_false]
            refine ⟨i, List.mem_range.2 hi, ?_⟩
            rw [Bool.not_eq_true, List.all_eq_false]
            refine ⟨x, List.mem_range.2 hx, ?_⟩
            rw [Bool.not_eq_true, List.all_eq_false]
            exact ⟨c, List.mem_range.2 hc, by rw [ea]; simp; omega⟩
          rw [this] at hK
          exact hK w5 k5'
        · simp only [decide_eq_false hgt, e_iff]
          unfold s191_p4
          simp only [e_add]
          rw [inc c (by omega)]
          refine hB3 _ _ ⟨rfl, k5', ?_⟩
          rw [List.range_succ, List.all_append, hall3]
          simp only [List.all_cons, List.all_nil, Bool.and_true, Bool.true_and, ea]
          simp
          omega
      · rintro l w4 ⟨rfl, k4, hall3⟩ B3
        rw [s191_p8_Fe]
        unfold s191_p7
        simp only [e_lss, decide_eq_false (show ¬ (((3 : Nat) : Int)) < 3 by decide), e_iff]
        unfold s191_p3
        simp only [e_add]
        rw [inc x (by omega)]
        refine hB2 _ _ ⟨rfl, k4, ?_⟩
        rw [List.range_succ, List.all_append, hall2]
        simp only [List.all_cons, List.all_nil, Bool.and_true, Bool.true_and]
        exact hall3
    · rintro l w2 ⟨rfl, k2, hall2⟩ B2
      rw [s191_p11_Fe]
      unfold s191_p10
      refine endM_ok (h.kp' k2) fun w3 k3 => ?_
      simp only [e_leq, decide_eq_false (show ¬ ((endN + 1 : Nat) : Int) ≤ ((endN : Nat) : Int) by omega), e_iff]
      unfold s191_p2
      simp only [e_add]
      rw [inc i (by omega)]
      refine hB _ _ ⟨rfl, k2.trans k3, ?_⟩
      rw [List.range_succ, List.all_append, hall]
      simp only [List.all_cons, List.all_nil, Bool.and_true, Bool.true_and]
      exact hall2
  · rintro l w1 ⟨rfl, k1, hall⟩ B
    rw [s191_p14_Fe]
    unfold s191_p13
    simp only [dnlt, e_lss, e_iff]
    unfold s191_p1
    rw [show quoH s.rs = true from hall] at hK
    exact hK w1 k1
set_option maxHeartbeats 2000000 in
theorem traM_ok (h : Mr F w m s) (hv : Vk s.rs) (hK : ∀ w', Kp Emp w w' → K (.bool (traH s.rs)) w') : cl Tryz.prog 192 #[P m 0] K w := by
  have hlen := hv.len
  obtain ⟨va, vt, rv, lv, rm, ha, htr, hr, _⟩ := h.parts
  obtain ⟨tvs, ht1, ht2, ht3⟩ := htr
  apply c192
  unfold s192_p12
  refine nk0 (fdp (ld1_r (v := rv) rm rfl ?_))
  refine hr.ln ?_
  have hrl := hv.rl
  generalize s.rs = rs at *
  obtain ⟨its, e1, hA, e4⟩ := hr
  have hil : its.length = rs.length := by rw [← e1, List.length_map]
  unfold s192_p11
  refine loop_n rs.length (fun i l w' => l = [P m 0, rv, I (rs.length : Nat), I (i : Nat)] ∧ Kp Emp w w' ∧ traH (rs.take i) = true) ⟨rfl, Kp.refl _ _, rfl⟩ ?_ ?_
  · rintro i l w1 hi ⟨rfl, k1, hall⟩ B hB
    rw [s192_p11_Fe]
    unfold s192_p10
    simp only [dlt hi, e_lss, e_ift]
    unfold s192_p9
    have hi2 : i < its.length := by omega
    have ei : its[i].1 = rs[i] := by
      have : (its.map (·.1))[i]? = rs[i]? := by rw [e1]
      rw [List.getElem?_map, List.getElem?_eq_getElem hi2, List.getElem?_eq_getElem hi] at this
      exact Option.some.inj this
    have hlg := e4 _ (List.getElem_mem hi2)
    have rl := hrl _ (List.getElem_mem hi)
    have rb := rl.rb
    have hll := rb.ll
    refine each_r rfl (hA.kp' k1) hi2 (rC_len _) (rC_sc hlg.scal) fun w2 r2 hk2 hz2 => ?_
    generalize its[i] = p at ei hlg r2
    have k2 := k1.trans hk2
    rw [ei] at hlg
    have htk : ∀ b : Bool, b = (!(live rs[i].st) || trLegs park rs[i].legs) → traH (rs.take (i + 1)) = b := fun b hb => by
      unfold traH at hall ⊢
      rw [List.take_succ_eq_append_getElem hi, List.all_append, hall, hb]
      simp
    have nxt : ∀ w3, Kp Emp w w3 → (!(live rs[i].st) || trLegs park rs[i].legs) = true → s192_p2 K B (P m 0) rv (I (rs.length : Nat)) (I (i : Nat)) w3 := fun w3 k3 hb => by
      unfold s192_p2
      simp only [e_add]
      rw [inc i (by omega)]
      exact hB _ _ ⟨rfl, k3, htk true hb.symm⟩
    generalize hbb : w1.heap.size = rb0 at r2
    unfold s192_p8
    refine loop_n (rs[i].legs.length - 1) (fun k l w' => l = [P m 0, P rb0 0, I (k : Nat), rv, I (rs.length : Nat), I (i : Nat)] ∧ Kp Emp w w' ∧ Row w' rb0 85 (rC p) ∧ trLegs park rs[i].legs = trLegs park (rs[i].legs.drop k) ∧ (0 < k → live rs[i].st = true)) ⟨rfl, k2, r2, by rw [List.drop_zero], fun q => by omega⟩ ?_ ?_
    · rintro k l w3 hk ⟨rfl, k3, r3, htl, hlv0⟩ B2 hB2
      rw [s192_p8_Fe]
      unfold s192_p7
      refine fdp (ld1_r (v := I p.1.st) r3 rfl ?_)
      refine aliveM_ok ?_
      rw [ei]
      cases hlv : live rs[i].st with
      | false =>
        simp only [e_gdft, e_pkf, e_iff]
        exact nxt w3 k3 (by rw [hlv]; rfl)
      | true =>
        simp only [e_gdtt, e_add]
        refine fdp (ld1_r (v := p.2) r3 rfl ?_)
        refine hlg.ln ?_
        rw [inc k (by omega)]
        simp only [e_lss, e_pkt, decide_eq_true (show (((k + 1 : Nat) : Int)) < ((rs[i].legs.length : Nat) : Int) by omega), e_ift]
        have hka : k < rs[i].legs.length := by omega
        have hkb : k + 1 < rs[i].legs.length := by omega
        have la := rl.at_ _ (List.getElem_mem hka)
        have lb := rl.at_ _ (List.getElem_mem hkb)
        have na := rl.rn.lg _ (List.getElem_mem hka)
        have nb := rl.rn.lg _ (List.getElem_mem hkb)
        have sa := rb.lg _ (List.getElem_mem hka)
        have sb := rb.lg _ (List.getElem_mem hkb)
        have h3 : park.ats.length = 3 := rfl
        obtain ⟨a, ea⟩ : ∃ a : Nat, rs[i].legs[k].a = (a : Int) := ⟨rs[i].legs[k].a.toNat, by have := na.1.1; omega⟩
        obtain ⟨b, eb⟩ : ∃ b : Nat, rs[i].legs[k + 1].a = (b : Int) := ⟨rs[i].legs[k + 1].a.toNat, by have := nb.1.1; omega⟩
        have ha1 : a < park.ats.length := by omega
        have hb1 : b < park.ats.length := by omega
        obtain ⟨t1, t2, t3, t4, t5⟩ := tr_of park_cv ha1 hb1
        have hd : 0 ≤ park.ats[a].dw ∧ park.ats[a].dw ≤ 100 := (show ∀ a ∈ park.ats, 0 ≤ a.dw ∧ a.dw ≤ 100 by decide) _ (List.getElem_mem ha1)
        have hnx := trLegs_at (C := park) (ls := rs[i].legs) (i := k + 1) hkb (by omega)
        simp only [Nat.add_sub_cancel] at hnx
        rw [ea, eb, t3, attOf_at ha1] at hnx
        -- the two variables stand, in whatever order
        have p5 : ∀ (w5 : World) (x y : Nat), Kp Emp w w5 → Row w5 rb0 85 (rC p) → Row w5 x 88 (lC rs[i].legs[k]) → Row w5 y 88 (lC rs[i].legs[k + 1]) → s192_p5 K B B2 (P m 0) (P rb0 0) (I (k : Nat)) (P x 0) (P y 0) rv (I (rs.length : Nat)) (I (i : Nat)) w5 := by
          intro w5 x y k5 rr rx ry
          unfold s192_p5 s192_p5_d
          have kd : Kp Emp w5 (drw w5) := kp_drw
          generalize drw w5 = wd at kd ⊢
          have kd' := k5.trans kd
          have rmd := kd'.row' rm
          have rxd := kd.row' rx
          have ryd := kd.row' ry
          refine fdp (ld1_r (v := I rs[i].legs[k + 1].s) ryd rfl ?_)
          refine fdp (ld1_r (v := I rs[i].legs[k].s) rxd rfl ?_)
          simp only [e_sub]
          rw [wrap64_id (by omega) (by omega)]
          refine nk0 (fdp (fdp (ld1_r (v := va) rmd rfl ?_)))
          refine fdp (ld1_r (v := I rs[i].legs[k].a) rxd rfl ?_)
          rw [ea]
          refine (ha.kp' kd').ix ha1 fun bb o _ hcl => ?_
          simp only [e_fd]
          refine hcl.ld1 (j := 1) (v := I park.ats[a].dw) rfl ?_
          refine nk0 ?_
          simp only [Nat.zero_add]
          refine ld1_r (v := vt) rmd rfl ?_
          refine ld1_r (v := I rs[i].legs[k].a) rxd rfl ?_
          rw [ea]
          have hta : a < tvs.length := by omega
          refine (ht1.kp' kd').ix hta fun bb o _ hcl => ?_
          refine hcl.ld0 (v := tvs[a]) rfl ?_
          refine ld1_r (v := I rs[i].legs[k + 1].a) ryd rfl ?_
          rw [eb]
          refine ((ht3 a hta t1).kp' kd').ix t2 fun bb o _ hcl => ?_
          refine hcl.ld0 (v := I park.tr[a][b]) rfl ?_
          simp only [e_add]
          rw [wrap64_id (by omega) (by omega)]
          simp only [e_lss]
          unfold s192_p4
          by_cases hlt : rs[i].legs[k + 1].s - rs[i].legs[k].s < park.ats[a].dw + park.tr[a][b]
          · simp only [decide_eq_true hlt, e_ift]
            have : traH rs = false := by
              unfold traH
              rw [List.all_eq_false]
              refine ⟨rs[i], List.getElem_mem hi, ?_⟩
              rw [hlv, htl, hnx, decide_eq_false (by omega)]
              simp
            rw [this] at hK
            exact hK wd kd'
          · simp only [decide_eq_false hlt, e_iff]
            unfold s192_p3
            simp only [e_add]
            rw [inc k (by omega)]
            refine hB2 _ _ ⟨rfl, kd', kd.row' rr, ?_, fun _ => hlv⟩
            rw [htl, hnx, decide_eq_true (by omega), Bool.true_and]
        unfold s192_p6
        have kd : Kp Emp w3 (drw w3) := kp_drw
        generalize drw w3 = wd at kd ⊢
        have k3d := k3.trans kd
        refine ⟨fun w' => Kp Emp wd w', Kp.refl _ _, ?_⟩
        unfold s192_p6_d
        have rd := kd.row' r3
        have hrd := rd.lt
        refine fdp ⟨p.2, fun w5 hJ => ld1_r (hJ.row' rd) rfl ⟨rfl, rfl⟩, ?_⟩
        refine (hlg.kp' k3d).ix hka fun b1 o1 _ c1 => ?_
        refine ⟨.agg (lC rs[i].legs[k]).toArray, fun w5 hJ => (c1.kp' hJ).ldn (lC_len _) ⟨rfl, rfl⟩, ?_⟩
        refine fdp ⟨p.2, fun w5 hJ => ld1_r (hJ.row' rd) rfl ⟨rfl, rfl⟩, ?_⟩
        simp only [e_add]
        rw [inc k (by omega)]
        refine (hlg.kp' k3d).ix hkb fun b2 o2 _ c2 => ?_
        refine ⟨.agg (lC rs[i].legs[k + 1]).toArray, fun w5 hJ => (c2.kp' hJ).ldn (lC_len _) ⟨rfl, rfl⟩, ?_⟩
        refine ⟨?_, ?_⟩
        · refine nw_r fun w5 r5 hk5 hz5 => ⟨hk5, ?_⟩
          refine nw_r fun w6 r6 hk6 hz6 => ⟨hk5.trans hk6, ?_⟩
          have k56 : Kp Emp wd w6 := hk5.trans hk6
          refine stn_r (cs := lC rs[i].legs[k]) (hk6.row' r5) (lC_len _) (show 0 + 2 ≤ 2 by decide) (lC_sc _) fun w7 r7 hk7 hz7 => ⟨k56.then hk7 fun b hb (q : b = _) => by omega, ?_⟩
          refine stn_r (cs := lC rs[i].legs[k + 1]) (hk7.row r6 fun (q : w5.heap.size = wd.heap.size) => by omega) (lC_len _) (show 0 + 2 ≤ 2 by decide) (lC_sc _) fun w8 r8 hk8 hz8 => ?_
          have k58 : Kp Emp wd w8 := (k56.then hk7 fun b hb (q : b = _) => by omega).then hk8 fun b hb (q : b = _) => by omega
          exact p5 w8 _ _ (k3d.trans k58) (k58.row' rd) (hk8.row r7 fun (q : wd.heap.size = w5.heap.size) => by omega) r8
        · refine nw_r fun w5 r5 hk5 hz5 => ⟨hk5, ?_⟩
          refine nw_r fun w6 r6 hk6 hz6 => ⟨hk5.trans hk6, ?_⟩
          have k56 : Kp Emp wd w6 := hk5.trans hk6
          refine stn_r (cs := lC rs[i].legs[k]) r6 (lC_len _) (show 0 + 2 ≤ 2 by decide) (lC_sc _) fun w7 r7 hk7 hz7 => ⟨k56.then hk7 fun b hb (q : b = _) => by omega, ?_⟩
          refine stn_r (cs := lC rs[i].legs[k + 1]) (hk7.row (hk6.row' r5) fun (q : wd.heap.size = w5.heap.size) => by omega) (lC_len _) (show 0 + 2 ≤ 2 by decide) (lC_sc _) fun w8 r8 hk8 hz8 => ?_
          have k58 : Kp Emp wd w8 := (k56.then hk7 fun b hb (q : b = _) => by omega).then hk8 fun b hb (q : b = _) => by omega
          exact p5 w8 _ _ (k3d.trans k58) (k58.row' rd) (hk8.row r7 fun (q : w5.heap.size = wd.heap.size) => by omega) r8
    · rintro l w3 ⟨rfl, k3, r3, htl, hlv0⟩ B2
      rw [s192_p8_Fe]
      unfold s192_p7
      refine fdp (ld1_r (v := I p.1.st) r3 rfl ?_)
      refine aliveM_ok ?_
      rw [ei]
      cases hlv : live rs[i].st with
      | false =>
        simp only [e_gdft, e_pkf, e_iff]
        exact nxt w3 k3 (by rw [hlv]; rfl)
      | true =>
        simp only [e_gdtt, e_add]
        refine fdp (ld1_r (v := p.2) r3 rfl ?_)
        refine hlg.ln ?_
        rw [inc _ (by omega)]
        simp only [e_lss, e_pkt, decide_eq_false (show ¬ (((rs[i].legs.length - 1 + 1 : Nat) : Int)) < ((rs[i].legs.length : Nat) : Int) by omega), e_iff]
        refine nxt w3 k3 ?_
        rw [hlv, htl]
        have : rs[i].legs.drop (rs[i].legs.length - 1) = [] ∨ ∃ l, rs[i].legs.drop (rs[i].legs.length - 1) = [l] := by
          by_cases h0 : rs[i].legs.length = 0
          · left
            exact List.drop_of_length_le (by omega)
          · right
            refine ⟨rs[i].legs[rs[i].legs.length - 1], ?_⟩
            rw [List.drop_eq_getElem_cons (by omega), List.drop_of_length_le (by omega)]
        rcases this with q | ⟨l, q⟩
        · rw [q]; rfl
        · rw [q, trLegs, trLegs, nextOk]; rfl
  · rintro l w1 ⟨rfl, k1, hall⟩ B
    rw [s192_p11_Fe]
    unfold s192_p10
    simp only [dnlt, e_lss, e_iff]
    unfold s192_p1
    rw [List.take_length] at hall
    rw [hall] at hK
    exact hK w1 k1
theorem verdM_ok (h : Mr F w m s) (hv : Vk s.rs) (hK : ∀ w', Kp Emp w w' → K (I (verd s.rs)) w') : cl Tryz.prog 147 #[P m 0] K w := by
  unfold verd at hK
  apply c147
  unfold s147_p1
  refine capM_ok h hv fun w1 k1 => ?_
  cases hc : capH s.rs with
  | false =>
    rw [hc] at hK
    simp only [e_not, Bool.not_false, e_ift]
    exact hK w1 k1
  | true =>
    rw [hc] at hK
    simp only [e_not, Bool.not_true, e_iff]
    refine quoM_ok (h.kp' k1) hv fun w2 k2 => ?_
    cases hq : quoH s.rs with
    | false =>
      rw [hq] at hK
      simp only [e_not, Bool.not_false, e_ift]
      exact hK w2 (k1.trans k2)
    | true =>
      rw [hq] at hK
      simp only [e_not, Bool.not_true, e_iff]
      refine traM_ok (h.kp' (k1.trans k2)) hv fun w3 k3 => ?_
      cases ht : traH s.rs with
      | false =>
        rw [ht] at hK
        simp only [e_not, Bool.not_false, e_ift]
        exact hK w3 ((k1.trans k2).trans k3)
      | true =>
        rw [ht] at hK
        simp only [e_not, Bool.not_true, e_iff]
        exact hK w3 ((k1.trans k2).trans k3)
end
end Go.Proofs.Qxb6500896aGreat
