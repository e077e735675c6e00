import Derived.Test.Qxb6500896aGreatC5
import Derived.Test.Qxb6500896aGreatC6
import Derived.Test.Qxb6500896aGreatGA
namespace Go.Proofs.Qxb6500896aGreat
open Go.Sh Go.RowKit
set_option linter.unusedVariables false
set_option linter.unusedSimpArgs false

/-! ### a party of one leg, as the law tries it -/
def tkC (rs : List Rec) (n : Nat) (slot sz : Int) (k : Nat) : Bool := decide (inside park rs (n : Nat) (slot + ((k : Nat) : Int)) 0 + sz ≤ (attOf park (n : Nat)).cap)
theorem sumL_1 {p : Leg → Bool} {sz : Int} {l : Leg} (h : p l = true) : sumL p sz [l] = sz := by unfold sumL; simp [h]
theorem fits_1 {rs : List Rec} {n : Nat} {cls slot sz : Int} (hd : dwell park (n : Nat) = (attOf park (n : Nat)).dw) :
    decide (fits park rs cls sz [⟨(n : Nat), slot⟩] 0 = 0) = ((List.range (attOf park (n : Nat)).dw.toNat).all (tkC rs n slot sz) && decide (entered rs (n : Nat) slot cls 0 + sz ≤ attQ (attOf park (n : Nat)) cls)) := by
  have e1 : capLeg park rs sz [⟨(n : Nat), slot⟩] 0 ⟨(n : Nat), slot⟩ = (List.range (attOf park (n : Nat)).dw.toNat).all (tkC rs n slot sz) := by
    unfold capLeg
    rw [Bool.eq_iff_iff, List.all_eq_true, List.all_eq_true]
    have key : ∀ k ∈ List.range (attOf park ((n : Nat) : Int)).dw.toNat, capAt park rs sz [⟨((n : Nat) : Int), slot⟩] 0 ⟨((n : Nat) : Int), slot⟩ k = tkC rs n slot sz k := fun k hk => by
      rw [List.mem_range] at hk
      unfold capAt tkC
      rw [sumL_1]
      unfold legIn
      rw [hd]
      simp
      omega
    exact ⟨fun h k hk => by rw [← key k hk]; exact h k hk, fun h k hk => by rw [key k hk]; exact h k hk⟩
  have e2 : quoLeg park rs cls sz [⟨(n : Nat), slot⟩] 0 ⟨(n : Nat), slot⟩ = decide (entered rs (n : Nat) slot cls 0 + sz ≤ attQ (attOf park (n : Nat)) cls) := by
    unfold quoLeg
    rw [sumL_1]
    unfold legAt
    simp
  unfold fits
  simp only [List.all_cons, List.all_nil, Bool.and_true, e1, e2]
  have e3 : trLegs park [⟨((n : Nat) : Int), slot⟩] = true := by
    rw [trLegs, trLegs, nextOk]; rfl
  rw [e3]
  cases (List.range (attOf park (n : Nat)).dw.toNat).all (tkC rs n slot sz) <;> cases decide (entered rs (n : Nat) slot cls 0 + sz ≤ attQ (attOf park (n : Nat)) cls) <;> rfl
section
variable {F M : Nat → Prop} {w w' w1 : World} {v lv rv : Value} {l : List Value} {C : Cfg} {rs : List Rec} {K : Value → World → Prop} {st : Int}
set_option maxHeartbeats 2000000 in
theorem takes_ok {n : Nat} {slot cls sz : Int} (hn : n < 3) (hsl : 0 ≤ slot ∧ slot ≤ 100000) (hc : 0 ≤ cls ∧ cls < 3) (hs : 0 ≤ sz ∧ sz ≤ 1073741824) (hr : Ro F w rv rs) (hlen : rs.length ≤ 16777216) (hB : RBs rs) (hid : ∀ r ∈ rs, r.id ≠ 0)
    (hK : ∀ w', Kp Emp w w' → K (.bool (decide (fits park rs cls sz [⟨(n : Nat), slot⟩] 0 = 0))) w') : cl Tryz.prog 44 #[rv, I (n : Nat), I slot, I cls, I sz] K w := by
  apply c44
  unfold s44_p8
  refine park_ok fun w0 l0 hk0 hc0 => ?_
  obtain ⟨va, vt, rfl, ha, _⟩ := hc0.ex
  refine fi_r (v := va) fiCfg0 (by rw [List.getElem?_toArray]; rfl) ?_
  have hal : n < park.ats.length := hn
  have ed := dwell_at (C := park) hal
  have ea := attOf_at (C := park) hal
  rw [fits_1 (by rw [ed, ea])] at hK
  rw [ea] at hK
  have hd : (0 ≤ park.ats[n].dw ∧ park.ats[n].dw ≤ 100) := (show ∀ a ∈ park.ats, 0 ≤ a.dw ∧ a.dw ≤ 100 by decide) _ (List.getElem_mem hal)
  have et : ∀ k, tkC rs n slot sz k = decide (inside park rs (n : Nat) (slot + ((k : Nat) : Int)) 0 + sz ≤ park.ats[n].cap) := fun k => by unfold tkC; rw [ea]
  refine each_r rfl ha hal rfl rfl fun w1 r1 hk1 hz1 => ?_
  generalize hw0 : w0.heap.size = b0 at r1 ⊢
  generalize park.ats[n] = at_ at hK ed ea hd et r1
  have kk1 := hk0.trans hk1
  unfold s44_p7
  refine loop_n at_.dw.toNat (fun i l w' => l = [rv, I (n : Nat), I slot, I cls, I sz, P b0 0, I (slot + ((i : Nat) : Int))] ∧ Kp Emp w w' ∧ Row w' b0 113 at_.cells ∧ (List.range i).all (tkC rs n slot sz) = true) ⟨by simp, kk1, r1, rfl⟩ ?_ ?_
  · rintro i l w2 hi ⟨rfl, k2, r2, hall⟩ B hB2
    rw [s44_p7_Fe]
    unfold s44_p6
    refine fdp (ld1_r (v := I at_.dw) r2 rfl ?_)
    simp only [e_add]
    rw [wrap64_id (by omega) (by omega)]
    simp only [e_lss, decide_eq_true (show slot + ((i : Nat) : Int) < slot + at_.dw by omega), e_ift]
    unfold s44_p5 s44_p5_d
    have kd : Kp Emp w2 (drw w2) := kp_drw
    generalize drw w2 = w3 at kd ⊢
    have r3 := kd.row' r2
    have k3 := k2.trans kd
    refine fdp (ld1_r (v := I at_.cap) r3 rfl ?_)
    refine occL_ok hn ⟨by omega, by omega⟩ (hr.kp' k3) hlen hB hid fun w4 k4 => ⟨k4.below', ?_⟩
    have ib := ins_b (C := park) hB hlen (n : Nat) (slot + ((i : Nat) : Int)) 0
    simp only [e_add]
    rw [wrap64_id (by omega) (by omega)]
    refine ⟨k4.below', ?_⟩
    have eti := et i
    simp only [e_gtr]
    unfold s44_p4
    by_cases hgt : at_.cap < inside park rs (n : Nat) (slot + ((i : Nat) : Int)) 0 + sz
    · simp only [decide_eq_true hgt, e_ift]
      have : (List.range at_.dw.toNat).all (tkC rs n slot sz) = false := by
        rw [List.all_eq_false]
        exact ⟨i, List.mem_range.2 hi, by rw [eti]; simp; omega⟩
      rw [this] at hK
      exact hK w4 (k3.trans k4)
    · simp only [decide_eq_false hgt, e_iff]
      unfold s44_p3
      simp only [e_add]
      rw [wrap64_id (by omega) (by omega)]
      refine hB2 _ _ ⟨by rw [show slot + ((i : Nat) : Int) + 1 = slot + ((i + 1 : Nat) : Int) by omega], k3.trans k4, k4.row' r3, ?_⟩
      rw [List.range_succ, List.all_append, hall]
      simp only [List.all_cons, List.all_nil, Bool.and_true, Bool.true_and]
      rw [eti]
      simp
      omega
  · rintro l w2 ⟨rfl, k2, r2, hall⟩ B
    rw [s44_p7_Fe]
    unfold s44_p6
    refine fdp (ld1_r (v := I at_.dw) r2 rfl ?_)
    simp only [e_add]
    rw [wrap64_id (by omega) (by omega)]
    simp only [e_lss, decide_eq_false (show ¬ slot + ((at_.dw.toNat : Nat) : Int) < slot + at_.dw by omega), e_iff]
    unfold s44_p2 s44_p2_d
    have kd : Kp Emp w2 (drw w2) := kp_drw
    generalize drw w2 = w3 at kd ⊢
    have r3 := kd.row' r2
    have k3 := k2.trans kd
    refine fdp ?_
    refine cls3 (w := w3) hc.1 hc.2 (o := 0) r3.cells0 ?_ (Kp.refl _ _)
    refine entL_ok (hr.kp' k3) hlen hB hid fun w4 k4 => ⟨k4.below', ?_⟩
    have ib := ent_b hB hlen (n : Nat) slot cls 0
    simp only [e_add]
    rw [wrap64_id (by omega) (by omega)]
    refine ⟨k4.below', ?_⟩
    simp only [e_leq]
    unfold s44_p1
    rw [hall, Bool.true_and] at hK
    exact hK w4 (k3.trans k4)
end
end Go.Proofs.Qxb6500896aGreat
