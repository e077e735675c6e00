import Derived.Test.Qxb6500896aGreatC5
import Derived.Test.Qxb6500896aGreatC6
namespace Go.Proofs.Qxb6500896aGreat
open Go.Sh Go.RowKit
set_option linter.unusedVariables false
set_option linter.unusedSimpArgs false

theorem trLegs_i {C : Cfg} : ∀ {ls : List Leg}, trLegs C ls = true → ∀ i (h : i + 1 < ls.length), (ls[i]'(by omega)).s + (attOf C (ls[i]'(by omega)).a).dw + trOf C (ls[i]'(by omega)).a ls[i + 1].a ≤ ls[i + 1].s
  | [], _, i, h => absurd h (by simp)
  | [a], _, i, h => absurd h (by simp)
  | a :: b :: ls, h, i, hi => by
    rw [trLegs, Bool.and_eq_true] at h
    cases i with
    | zero =>
      have := h.1
      unfold nextOk at this
      exact of_decide_eq_true this
    | succ i => exact trLegs_i h.2 i (by simpa using hi)
section
variable {V V' V1 S F G : Nat → Prop} {W w w' w1 w2 : World} {fv v rv va vt : Value} {K : Value → World → Prop} {c t3 : Nat} {σ : Sg}
set_option maxHeartbeats 4000000 in
/-- the legs of every live ticket are apart -/
theorem bd_legs (g : SGd park σ) (r3 : Row w t3 34 (park.cells va vt)) (ha : Ar Att.cells 5 F w va park.ats) (ht : Rws F w vt park.tr) (hro : Ro G w rv σ.rs) (hK : ∀ w', Kp Emp w w' → K (.bool true) w') : s35_p12 K (P t3 0) rv w := by
  unfold s35_p12
  have hlen := g.len
  have hmb : park.mb = 26 := rfl
  rw [hmb] at hlen
  have hn0 := g.now
  have hmc : park.mc = 36 := rfl
  rw [hmc] at hn0
  refine hro.ln ?_
  obtain ⟨its, e1, hA, e4⟩ := hro
  have hil : its.length = σ.rs.length := by rw [← e1, List.length_map]
  unfold s35_p11
  refine loop_n σ.rs.length (fun i l w' => l = [P t3 0, rv, I (σ.rs.length : Nat), I (i : Nat)] ∧ Kp Emp w w') ⟨rfl, Kp.refl _ _⟩ ?_ ?_
  · rintro i l w1 hi ⟨rfl, k1⟩ B hB
    rw [s35_p11_Fe]
    unfold s35_p10
    simp only [dlt hi, e_lss, e_ift]
    unfold s35_p9
    have hi2 : i < its.length := by omega
    have ei : its[i].1 = σ.rs[i] := by
      have : (its.map (·.1))[i]? = σ.rs[i]? := by rw [e1]
      rw [List.getElem?_map, List.getElem?_eq_getElem hi2, List.getElem?_eq_getElem hi] at this
      exact Option.some.inj this
    have hlg := e4 _ (List.getElem_mem hi2)
    have hmem : σ.rs[i] ∈ σ.rs := List.getElem_mem hi
    have rn := g.rn _ hmem
    have rc := g.rc _ hmem
    have htr := g.ld.tr _ hmem
    refine each_r rfl (hA.kp' k1) hi2 (rC_len _) (rC_sc hlg.scal) fun w2 r2 hk2 hz2 => ?_
    generalize its[i] = p at ei hlg r2
    generalize σ.rs[i] = rr at ei rn rc htr
    obtain ⟨p1, lvv⟩ := p
    have ei : p1 = rr := ei
    subst ei
    have hlg : Ar lC 2 G w lvv p1.legs := hlg
    have k2 := k1.trans hk2
    have hll := rn.ll
    have nxt : ∀ w3, Kp Emp w w3 → s35_p2 K B (P t3 0) rv (I (σ.rs.length : Nat)) (I (i : Nat)) w3 := by
      intro w3 k3
      unfold s35_p2
      simp only [e_add]
      rw [inc i (by omega)]
      exact hB _ _ ⟨rfl, k3⟩
    unfold s35_p8
    refine loop_m (p1.legs.length + 1) (fun n l w' => ∃ k : Nat, l = [P t3 0, P w1.heap.size 0, I (k : Nat), rv, I (σ.rs.length : Nat), I (i : Nat)] ∧ n = p1.legs.length + 1 - k ∧ k ≤ p1.legs.length ∧ Kp Emp w w' ∧ Row w' w1.heap.size 85 (rC (p1, lvv))) ⟨0, rfl, rfl, Nat.zero_le _, k2, r2⟩ ?_
    rintro n l w3 ⟨k, rfl, hn, hk, k3, q3⟩ B2 hB2
    rw [s35_p8_Fe]
    unfold s35_p7
    refine fdp (ld1_r (v := I p1.st) q3 rfl ?_)
    refine liveL_ok ?_
    cases hlv : live p1.st with
    | false =>
      simp only [e_gdft, e_pkf, e_iff]
      exact nxt w3 k3
    | true =>
      have htr := htr hlv
      simp only [e_gdtt, e_add]
      rw [inc k (by omega)]
      refine fdp (ld1_r (v := lvv) q3 rfl ?_)
      refine hlg.ln ?_
      simp only [e_lss, e_pkt]
      by_cases q2 : k + 1 < p1.legs.length
      · have e2 : (((k + 1 : Nat) : Int) < ((p1.legs.length : Nat) : Int)) := by omega
        simp only [e2, decide_true, e_ift]
        have hap := trLegs_i htr k q2
        have hk1 : k < p1.legs.length := by omega
        obtain ⟨⟨a0, a1⟩, s0, s1⟩ := rn.lg _ (List.getElem_mem hk1)
        obtain ⟨⟨b0, b1⟩, t0, t1⟩ := rn.lg _ (List.getElem_mem q2)
        have la := rc.lg _ (List.getElem_mem hk1)
        have lb := rc.lg _ (List.getElem_mem q2)
        have hal : park.ats.length = 3 := rfl
        have hhz : park.hz = 8 := rfl
        rw [hal, hhz] at la lb
        unfold s35_p6 s35_p6_d
        have kd : Kp Emp w3 (drw w3) := kp_drw
        generalize drw w3 = w4 at kd ⊢
        have q4 := kd.row' q3
        have k4 := k3.trans kd
        have hlg4 := hlg.kp' k4
        refine ⟨fun w' => Kp Emp w4 w', Kp.refl _ _, ?_⟩
        refine fdp ⟨_, fun w' hJ => ld1_r (v := lvv) (hJ.row' q4) rfl ⟨rfl, rfl⟩, ?_⟩
        obtain ⟨bb, oo, hb1, hb2⟩ : ∃ b o, (∀ {X : Value → World → Prop} {w' : World}, X (.pointer (some ⟨b, o, none⟩)) w' → ixs 2 lvv (I (k : Nat)) X w') ∧ Cells w4 b o (lC p1.legs[k]) := by
          obtain ⟨_, h2⟩ := hlg4
          rcases h2 with ⟨a, cap, rfl, he⟩ | ⟨b, o, cap, rfl, hcap, hF, h0, hcc⟩
          · exact absurd hk1 (by rw [he]; simp)
          · refine ⟨b, o + k * 2, fun {X w'} hX => ⟨⟨by omega, by omega⟩, ?_⟩, hcc k hk1⟩
            rw [add_mk, show ((k : Nat) : Int).toNat = k by omega]
            exact hX
        obtain ⟨bb2, oo2, hb3, hb4⟩ : ∃ b o, (∀ {X : Value → World → Prop} {w' : World}, X (.pointer (some ⟨b, o, none⟩)) w' → ixs 2 lvv (I ((k + 1 : Nat) : Int)) X w') ∧ Cells w4 b o (lC p1.legs[k + 1]) := by
          obtain ⟨_, h2⟩ := hlg4
          rcases h2 with ⟨a, cap, rfl, he⟩ | ⟨b, o, cap, rfl, hcap, hF, h0, hcc⟩
          · exact absurd hk1 (by rw [he]; simp)
          · refine ⟨b, o + (k + 1) * 2, fun {X w'} hX => ⟨⟨by omega, by omega⟩, ?_⟩, hcc (k + 1) q2⟩
            rw [add_mk, show ((k + 1 : Nat) : Int).toNat = k + 1 by omega]
            exact hX
        refine hb1 ⟨_, fun w' hJ => (hb2.kp' hJ).ldn (lC_len _) ⟨rfl, rfl⟩, ?_⟩
        refine fdp ⟨_, fun w' hJ => ld1_r (v := lvv) (hJ.row' q4) rfl ⟨rfl, rfl⟩, ?_⟩
        simp only [e_add]
        rw [inc k (by omega)]
        refine hb3 ⟨_, fun w' hJ => (hb4.kp' hJ).ldn (lC_len _) ⟨rfl, rfl⟩, ?_⟩
        -- the test
        have p5 : ∀ (w5 : World) (x y : Nat), Kp Emp w4 w5 → Row w5 x 88 (lC p1.legs[k]) → Row w5 y 88 (lC p1.legs[k + 1]) → s35_p5 K B B2 (P t3 0) (P w1.heap.size 0) (I (k : Nat)) (P x 0) (P y 0) rv (I (σ.rs.length : Nat)) (I (i : Nat)) w5 := by
          intro w5 x y k5 rx ry
          unfold s35_p5 s35_p5_d
          have kd5 : Kp Emp w5 (drw w5) := kp_drw
          generalize drw w5 = w6 at kd5 ⊢
          have kk := k5.trans kd5
          have k6 := k4.trans kk
          have rx6 := kd5.row' rx
          have ry6 := kd5.row' ry
          have r36 := k6.row' r3
          have q6 := kk.row' q4
          obtain ⟨na, hna⟩ : ∃ m : Nat, p1.legs[k].a = ((m : Nat) : Int) := ⟨p1.legs[k].a.toNat, by omega⟩
          obtain ⟨nb, hnb⟩ : ∃ m : Nat, p1.legs[k + 1].a = ((m : Nat) : Int) := ⟨p1.legs[k + 1].a.toNat, by omega⟩
          have hna3 : na < park.ats.length := by rw [hal]; omega
          have hnb3 : nb < 3 := by omega
          have htl : park.tr.length = 3 := rfl
          have hnat : na < park.tr.length := by rw [htl]; omega
          have hrl : ∀ row ∈ park.tr, row.length = 3 ∧ ∀ z ∈ row, 0 ≤ z ∧ z ≤ 100 := by decide
          have hdl : ∀ a ∈ park.ats, 0 ≤ a.dw ∧ a.dw ≤ 100 := by decide
          obtain ⟨hr3, hrz⟩ := hrl _ (List.getElem_mem hnat)
          have hnbt : nb < park.tr[na].length := by rw [hr3]; exact hnb3
          have hz := hrz _ (List.getElem_mem hnbt)
          have hdw := hdl _ (List.getElem_mem hna3)
          have etr : trOf park p1.legs[k].a p1.legs[k + 1].a = park.tr[na][nb] := by
            unfold trOf
            rw [hna, hnb, show ((na : Nat) : Int).toNat = na by omega, show ((nb : Nat) : Int).toNat = nb by omega, List.getElem?_eq_getElem hnat, Option.getD_some, List.getElem?_eq_getElem hnbt]; rfl
          have eat : attOf park p1.legs[k].a = park.ats[na] := (congrArg (attOf park) hna).trans (attOf_at hna3)
          rw [etr, eat] at hap
          obtain ⟨tvs, ht1, ht2, ht3⟩ := ht
          have hnt : na < tvs.length := by omega
          have hrow := ht3 na hnt hnat
          refine fdp (ld1_r (v := I p1.legs[k + 1].s) ry6 rfl ?_)
          refine fdp (ld1_r (v := I p1.legs[k].s) rx6 rfl ?_)
          refine fdp (ld1_r (v := va) r36 rfl ?_)
          refine fdp (ld1_r (v := I p1.legs[k].a) rx6 rfl ?_)
          rw [hna]
          refine (ha.kp' k6).ix hna3 fun b o _ hcc => ?_
          simp only [e_fd]
          refine hcc.ld1 (j := 1) (v := I park.ats[na].dw) rfl ?_
          have ew1 : IntKind.i64.wrap (p1.legs[k].s + park.ats[na].dw) = p1.legs[k].s + park.ats[na].dw := wrap64_id (by omega) (by omega)
          have ew2 : IntKind.i64.wrap (p1.legs[k].s + park.ats[na].dw + park.tr[na][nb]) = p1.legs[k].s + park.ats[na].dw + park.tr[na][nb] := wrap64_id (by omega) (by omega)
          simp only [e_add, Nat.zero_add, ew1]
          refine ld1_r (v := vt) r36 rfl ?_
          refine ld1_r (v := I p1.legs[k].a) rx6 rfl ?_
          rw [hna]
          refine (ht1.kp' k6).ix hnt fun b o _ hcc => ?_
          refine hcc.ld0 rfl ?_
          refine ld1_r (v := I p1.legs[k + 1].a) ry6 rfl ?_
          rw [hnb]
          refine (hrow.kp' k6).ix hnbt fun b o _ hcc => ?_
          refine hcc.ld0 rfl ?_
          simp only [e_add, e_lss, ew2]
          have e3 : ¬ p1.legs[k + 1].s < p1.legs[k].s + park.ats[na].dw + park.tr[na][nb] := by omega
          unfold s35_p4
          simp only [e3, decide_false, e_iff]
          unfold s35_p3
          simp only [e_add]
          rw [inc k (by omega)]
          exact hB2 (p1.legs.length + 1 - (k + 1)) _ _ (by omega) ⟨k + 1, rfl, rfl, by omega, k6, q6⟩
        refine ⟨nw_r fun w5 r5 hk5 hz5 => ⟨hk5, nw_r fun w6 r6 hk6 hz6 => ⟨hk5.trans hk6, ?_⟩⟩, nw_r fun w5 r5 hk5 hz5 => ⟨hk5, nw_r fun w6 r6 hk6 hz6 => ⟨hk5.trans hk6, ?_⟩⟩⟩
        · refine stn_r (cs := lC p1.legs[k]) (hk6.row' r5) rfl (show 0 + 2 ≤ 2 by decide) (lC_sc _) fun w7 r7 hk7 hz7 => ?_
          replace r7 : Row w7 w4.heap.size 88 (lC p1.legs[k]) := r7
          have k47 : Kp Emp w4 w7 := (hk5.trans hk6).then hk7 fun b hb (q : b = _) => by omega
          refine ⟨k47, ?_⟩
          refine stn_r (cs := lC p1.legs[k + 1]) (hk7.row r6 (show ¬ w5.heap.size = w4.heap.size by omega)) rfl (show 0 + 2 ≤ 2 by decide) (lC_sc _) fun w8 r8 hk8 hz8 => ?_
          replace r8 : Row w8 w5.heap.size 88 (lC p1.legs[k + 1]) := r8
          exact p5 w8 _ _ (k47.then hk8 fun b hb (q : b = _) => by omega) (hk8.row r7 (show ¬ w4.heap.size = w5.heap.size by omega)) r8
        · refine stn_r (cs := lC p1.legs[k]) r6 rfl (show 0 + 2 ≤ 2 by decide) (lC_sc _) fun w7 r7 hk7 hz7 => ?_
          replace r7 : Row w7 w5.heap.size 88 (lC p1.legs[k]) := r7
          have k47 : Kp Emp w4 w7 := (hk5.trans hk6).then hk7 fun b hb (q : b = _) => by omega
          refine ⟨k47, ?_⟩
          refine stn_r (cs := lC p1.legs[k + 1]) (hk7.row (hk6.row' r5) (show ¬ w4.heap.size = w5.heap.size by omega)) rfl (show 0 + 2 ≤ 2 by decide) (lC_sc _) fun w8 r8 hk8 hz8 => ?_
          replace r8 : Row w8 w4.heap.size 88 (lC p1.legs[k + 1]) := r8
          exact p5 w8 _ _ (k47.then hk8 fun b hb (q : b = _) => by omega) (hk8.row r7 (show ¬ w5.heap.size = w4.heap.size by omega)) r8
      · have e2 : ¬ (((k + 1 : Nat) : Int) < ((p1.legs.length : Nat) : Int)) := by omega
        simp only [e2, decide_false, e_iff]
        exact nxt w3 k3
  · rintro l w1 ⟨rfl, k1⟩ B
    rw [s35_p11_Fe]
    unfold s35_p10
    simp only [dnlt, e_lss, e_iff]
    unfold s35_p1
    exact hK w1 k1
end
end Go.Proofs.Qxb6500896aGreat
