import Derived.Test.Qxb6500896aGreatM23
namespace Go.Proofs.Qxb6500896aGreat
open Go.Sh Go.RowKit
set_option linter.unusedVariables false
set_option linter.unusedSimpArgs false

/-- the peak of the first i slots -/
def pk0 (rs : List Rec) (a s : Int) : Nat → Int
  | 0 => 0
  | k + 1 => pkF park rs a s k
theorem pk0_step {rs : List Rec} {a s : Int} {i : Nat} (h : 0 ≤ inside park rs a (s + ((i : Nat) : Int)) 0) : pk0 rs a s (i + 1) = if pk0 rs a s i < inside park rs a (s + ((i : Nat) : Int)) 0 then inside park rs a (s + ((i : Nat) : Int)) 0 else pk0 rs a s i := by
  cases i with
  | zero =>
    rw [show s + ((0 : Nat) : Int) = s by omega] at h ⊢
    by_cases h0 : pk0 rs a s 0 < inside park rs a s 0
    · rw [if_pos h0]; rfl
    · rw [if_neg h0]
      have h1 : ¬ (0 : Int) < inside park rs a s 0 := h0
      show inside park rs a s 0 = 0
      omega
  | succ k => simp only [pk0, pkF]; rfl
section
variable {O G O2 O' S F : Nat → Prop} {w w' w0 w1 : World} {m c ib rb lb a j : Nat} {now n : Int} {rv lv v1 : Value} {s s2 : Ms} {K : Value → World → Prop} {X : World → Prop} {seq : Int} {σ : Sg} {q : Rq} {id st op : Int} {B1 : List Value → World → Prop}
/-- an attraction's capacity -/
theorem Mr.att0 {Y : Value → World → Prop} (h : Mr F w m s) (ha : a < 3) (hY : Y (I (attOf park (a : Nat)).cap) w) : ld1 (P m 0) (fun t _ => ixs 5 t (I (a : Nat)) (fun t _ => fd 0 t (fun t _ => ld1 t Y w) w) w) w := by
  obtain ⟨va, vt, rv, lv, rm, hat, _, _, _⟩ := h.parts
  have h3 : park.ats.length = 3 := rfl
  rw [attOf_at (by omega)] at hY
  refine ld1_r (v := va) rm rfl ?_
  refine hat.ix (by omega) fun b o _ cc => ?_
  simp only [e_fd]
  exact cc.ld1 (j := 0) (v := I (park.ats[a]'(by omega)).cap) rfl hY
theorem Mr.att1 {Y : Value → World → Prop} (h : Mr F w m s) (ha : a < 3) (hY : Y (I (attOf park (a : Nat)).dw) w) : ld1 (P m 0) (fun t _ => ixs 5 t (I (a : Nat)) (fun t _ => fd 1 t (fun t _ => ld1 t Y w) w) w) w := by
  obtain ⟨va, vt, rv, lv, rm, hat, _, _, _⟩ := h.parts
  have h3 : park.ats.length = 3 := rfl
  rw [attOf_at (by omega)] at hY
  refine ld1_r (v := va) rm rfl ?_
  refine hat.ix (by omega) fun b o _ cc => ?_
  simp only [e_fd]
  exact cc.ld1 (j := 1) (v := I (park.ats[a]'(by omega)).dw) rfl hY
theorem att_s (ha : a < 3) : (1 ≤ (attOf park (a : Nat)).dw ∧ (attOf park (a : Nat)).dw ≤ 3) ∧ 1 ≤ (attOf park (a : Nat)).cap ∧ (attOf park (a : Nat)).cap ≤ 10 := by
  match a, ha with
  | 0, _ => decide
  | 1, _ => decide
  | 2, _ => decide
set_option maxHeartbeats 2000000 in
/-- one slot of a stay -/
theorem slot_in {sl fr v : Int} (h : Mw O G w0 O' w m σ.ms) (g : SGd park σ) (ha : a < 3) (hv : 0 ≤ v ∧ v ≤ 1000) (hfr : 0 ≤ fr ∧ fr ≤ 10)
    (hB : ∀ w', Kp Emp w w' → s97_p2 K B1 (P m 0) (I (a : Nat)) (I sl) (I (if (attOf park (a : Nat)).cap - fr < inside park σ.rs (a : Nat) v 0 then (attOf park (a : Nat)).cap - inside park σ.rs (a : Nat) v 0 else fr)) (I v) w') :
    s97_p5 K B1 (P m 0) (I (a : Nat)) (I sl) (I fr) (I v) w := by
  have hm : Mk σ.ms := MG.mk ⟨_, g⟩
  have ib := ins_b (C := park) (rs := σ.rs) hm.vk.rb (by have := hm.vk.len; show σ.rs.length ≤ _; have : σ.rs.length ≤ 1000 := hm.vk.len; omega) (a : Nat) v 0
  have hcp := g.ld.cap (a : Nat) v (by omega) (by have : park.ats.length = 3 := rfl; omega)
  obtain ⟨_, c1, c2⟩ := att_s ha
  unfold s97_p5
  generalize hO : inside park σ.rs (a : Nat) v 0 = oc at ib hB hcp
  refine loop_m (oc + fr - (attOf park (a : Nat)).cap).toNat (fun n l w' => ∃ f : Int, n = (oc + f - (attOf park (a : Nat)).cap).toNat ∧ l = [P m 0, I (a : Nat), I sl, I f, I v] ∧ Kp Emp w w' ∧ f ≤ fr ∧ 0 ≤ f ∧ (f = fr ∨ (attOf park (a : Nat)).cap - oc ≤ f)) ⟨fr, rfl, rfl, Kp.refl _ _, Int.le_refl _, hfr.1, .inl rfl⟩ ?_
  rintro n l w1 ⟨f, hn, rfl, k1, f1, f0, f2⟩ B hB2
  rw [s97_p5_Fe]
  unfold s97_p4 s97_p4_d
  have kd : Kp Emp w1 (drw w1) := kp_drw
  generalize drw w1 = w2 at kd ⊢
  have k2 := k1.trans kd
  have mr2 := (h.emp k2).mr g
  refine nk0 (fdp (fdp (mr2.att0 ha ?_)))
  refine occM_ok ha (by omega) mr2 hm.vk fun w3 k3 => ⟨k3.below', ?_⟩
  rw [show inside park σ.ms.rs (a : Nat) v 0 = oc from hO]
  simp only [e_add]
  rw [wrap64_id (by omega) (by omega)]
  refine ⟨k3.below', ?_⟩
  simp only [e_gtr]
  unfold s97_p3
  by_cases hgt : (attOf park (a : Nat)).cap < oc + f
  · simp only [decide_eq_true hgt, e_ift, e_sub]
    rw [wrap64_id (by omega) (by omega)]
    exact hB2 _ _ _ (by omega) ⟨f - 1, rfl, rfl, k2.trans k3, by omega, by omega, by omega⟩
  · simp only [decide_eq_false hgt, e_iff]
    have := hB w3 (k2.trans k3)
    have e : (if (attOf park (a : Nat)).cap - fr < oc then (attOf park (a : Nat)).cap - oc else fr) = f := by
      split <;> omega
    rw [e] at this
    exact this
set_option maxHeartbeats 2000000 in
theorem slotM_ok (h : Mw O G w0 O' w m σ.ms) (g : SGd park σ) (hq : q.op = 18) (hN : XprN q) (hK : MK O G w0 m K σ.ms (quM q σ)) : cl Tryz.prog 97 #[P m 0, I q.at', I q.sl] K w := by
  have hm : Mk σ.ms := MG.mk ⟨_, g⟩
  have h3 : park.ats.length = 3 := rfl
  have hn := g.now
  have hmc : park.mc = 36 := rfl
  rw [hmc] at hn
  have ev : valid park σ.now q = (if hasA park q.at' = true then (if isO park σ.now q.sl = true then 0 else 3) else 13) := by
    unfold valid; rw [if_neg (by omega), if_neg (by omega), if_neg (by omega), if_pos hq]
  have ha0 := hN.at'.1
  unfold quM at hK
  rw [ev] at hK
  apply c97
  unfold s97_p8
  refine nk0 (fdp (fdp ((h.mr g).ats ?_)))
  simp only [e_geq]
  by_cases ha : q.at' < 3
  case neg =>
    have e0 : decide (((3 : Nat) : Int) ≤ q.at') = true := decide_eq_true (by omega)
    simp only [e0, e_ift]
    have eh : hasA park q.at' = false := by unfold hasA; rw [h3, decide_eq_false (show ¬ q.at' < ((3 : Nat) : Int) by omega), Bool.and_false]
    rw [eh] at hK
    exact no_ok (by decide) (h.out hK)
  have e0 : decide (((3 : Nat) : Int) ≤ q.at') = false := decide_eq_false (by omega)
  simp only [e0, e_iff]
  have eh : hasA park q.at' = true := by unfold hasA; rw [h3, decide_eq_true ha0, decide_eq_true (show q.at' < ((3 : Nat) : Int) by omega)]; rfl
  rw [if_pos eh] at hK
  refine openM_ok (h.mr g) (by show 0 ≤ σ.now ∧ σ.now ≤ 1000; omega) hN.sl fun w1 k1 => ?_
  have h1 := h.emp k1
  simp only [e_not]
  cases ho : isO park σ.now q.sl with
  | false =>
    simp only [Bool.not_false, e_ift]
    rw [ho] at hK
    exact no_ok (by decide) (h1.out hK)
  | true =>
    simp only [Bool.not_true, e_iff]
    rw [if_pos ho, if_pos rfl] at hK
    have hv0 : valid park σ.now q = 0 := by rw [ev, if_pos eh, if_pos ho]
    have hrp := qR_rpn park_cv (by decide) g hN hv0 (by omega)
    obtain ⟨_, hs1, hs2⟩ := valid_slot hv0 hq
    have h8 : park.hz = 8 := rfl
    rw [h8] at hs2
    obtain ⟨a, ea⟩ : ∃ a : Nat, q.at' = (a : Int) := ⟨q.at'.toNat, by omega⟩
    have ha3 : a < 3 := by omega
    unfold qR at hK hrp
    rw [if_neg (by omega), if_neg (by omega), if_pos hq] at hK hrp
    unfold qSlot at hK hrp
    rw [ea] at hK hrp ⊢
    rw [eR_18 rfl hq] at hK
    obtain ⟨⟨d1, d2⟩, c1, c2⟩ := att_s ha3
    have ib : ∀ x, 0 ≤ inside park σ.rs (a : Nat) x 0 := fun x => (ins_b (C := park) (rs := σ.rs) hm.vk.rb (by have : σ.rs.length ≤ 1000 := hm.vk.len; omega) (a : Nat) x 0).1
    have icap : ∀ x, inside park σ.rs (a : Nat) x 0 ≤ (attOf park (a : Nat)).cap := fun x => g.ld.cap (a : Nat) x (by omega) (by omega)
    have pkb : ∀ i, 0 ≤ pk0 σ.rs (a : Nat) q.sl i ∧ pk0 σ.rs (a : Nat) q.sl i ≤ (attOf park (a : Nat)).cap := fun i => by
      induction i with
      | zero => simp only [pk0]; omega
      | succ i ih =>
        rw [pk0_step (ib _)]
        have := ib (q.sl + ((i : Nat) : Int))
        have := icap (q.sl + ((i : Nat) : Int))
        split <;> omega
    obtain ⟨dw, edw⟩ : ∃ dw : Nat, (attOf park (a : Nat)).dw = ((dw + 1 : Nat) : Int) := ⟨((attOf park (a : Nat)).dw - 1).toNat, by omega⟩
    refine nk0 (fdp (fdp ((h1.mr g).att0 ha3 ?_)))
    unfold s97_p7
    refine loop_n (dw + 1) (fun i l w' => l = [P m 0, I (a : Nat), I q.sl, I ((attOf park (a : Nat)).cap - pk0 σ.rs (a : Nat) q.sl i), I (q.sl + ((i : Nat) : Int))] ∧ Kp Emp w1 w') ⟨by simp [pk0], Kp.refl _ _⟩ ?_ ?_
    · rintro i l w2 hi ⟨rfl, k2⟩ B hB
      rw [s97_p7_Fe]
      unfold s97_p6
      have h2 := h1.emp k2
      refine nk0 (fdp (fdp ((h2.mr g).att1 ha3 ?_)))
      simp only [e_add]
      rw [edw, wrap64_id (by omega) (by omega)]
      simp only [e_lss, decide_eq_true (show q.sl + ((i : Nat) : Int) < q.sl + ((dw + 1 : Nat) : Int) by omega), e_ift]
      have pb := pkb i
      refine slot_in h2 g ha3 (by omega) (by omega) fun w3 k3 => ?_
      unfold s97_p2
      simp only [e_add]
      rw [wrap64_id (by omega) (by omega)]
      refine hB _ _ ⟨?_, k2.trans k3⟩
      rw [pk0_step (ib _), show q.sl + ((i : Nat) : Int) + 1 = q.sl + ((i + 1 : Nat) : Int) by omega]
      rw [show (attOf park (a : Nat)).cap - ((attOf park (a : Nat)).cap - pk0 σ.rs (a : Nat) q.sl i) = pk0 σ.rs (a : Nat) q.sl i by omega]
      by_cases hlt : pk0 σ.rs (a : Nat) q.sl i < inside park σ.rs (a : Nat) (q.sl + ((i : Nat) : Int)) 0
      · rw [if_pos hlt, if_pos hlt]
      · rw [if_neg hlt, if_neg hlt]
    · rintro l w2 ⟨rfl, k2⟩ B
      rw [s97_p7_Fe]
      unfold s97_p6
      have h2 := h1.emp k2
      refine nk0 (fdp (fdp ((h2.mr g).att1 ha3 ?_)))
      simp only [e_add]
      rw [edw, wrap64_id (by omega) (by omega)]
      simp only [e_lss, decide_eq_false (show ¬ q.sl + ((dw + 1 : Nat) : Int) < q.sl + ((dw + 1 : Nat) : Int) by omega), e_iff]
      unfold s97_p1
      refine occM_ok ha3 (by omega) (h2.mr g) hm.vk fun w3 k3 => ?_
      have h3' := h2.emp k3
      refine entM_ok (h3'.mr g) hm.vk fun w4 k4 => ?_
      have h4 := h3'.emp k4
      refine entM_ok (h4.mr g) hm.vk fun w5 k5 => ?_
      have h5 := h4.emp k5
      refine entM_ok (h5.mr g) hm.vk fun w6 k6 => ?_
      have h6 := h5.emp k6
      have efr : ((attOf park (a : Nat)).dw - 1).toNat = dw := by omega
      rw [efr] at hK hrp
      refine bsq_r (l := [I (inside park σ.rs (a : Nat) q.sl 0), I (entered σ.rs (a : Nat) q.sl 0 0), I (entered σ.rs (a : Nat) q.sl 1 0), I (entered σ.rs (a : Nat) q.sl 2 0), I ((attOf park (a : Nat)).cap - pkF park σ.rs (a : Nat) q.sl dw)]) rfl fun w7 r7 hk7 hz7 => ?_
      have sl7 : Sl iC 1 w7 3 (some w6.heap.size) (.slice (some ⟨w6.heap.size, 0, none⟩) 5 5) [inside park σ.rs (a : Nat) q.sl 0, entered σ.rs (a : Nat) q.sl 0 0, entered σ.rs (a : Nat) q.sl 1 0, entered σ.rs (a : Nat) q.sl 2 0, (attOf park (a : Nat)).cap - pkF park σ.rs (a : Nat) q.sl dw] := ⟨5, [], rfl, Nat.le_refl _, rfl, by rw [List.append_nil]; exact r7⟩
      refine yes_s (h6.emp hk7) sl7 (fun x hx => ?_) (by simp) ?_
      · simp only [List.mem_cons, List.not_mem_nil, or_false] at hx
        rcases hx with e | e | e | e | e
        · rw [e]; exact hrp.oc
        · rw [e]; exact hrp.e0
        · rw [e]; exact hrp.e1
        · rw [e]; exact hrp.e2
        · rw [e]; exact hrp.fr
      · simpa [List.flatMap_cons] using hK
end
end Go.Proofs.Qxb6500896aGreat
