import Derived.Test.Qxb6500896aGreatM2
import Derived.Test.Qxb6500896aGreatN20
namespace Go.Proofs.Qxb6500896aGreat
open Go.Sh Go.RowKit
set_option linter.unusedVariables false
set_option linter.unusedSimpArgs false

/-! ### the model's verdict on the state after a request is the table's test ahead of it -/
/-- legs that lie before the end -/
def LegB (ls : List Leg) : Prop := ∀ l ∈ ls, (0 ≤ l.a ∧ l.a < 3) ∧ 0 ≤ l.s ∧ l.s ≤ 44
section
variable {rs rs' : List Rec} {cl sz skip : Int} {ls : List Leg}
theorem dw_le {a : Int} (h0 : 0 ≤ a) (h1 : a < 3) : 0 ≤ (attOf park a).dw ∧ (attOf park a).dw + 44 ≤ ((endN : Nat) : Int) + 1 := by
  have : a = 0 ∨ a = 1 ∨ a = 2 := by omega
  rcases this with rfl | rfl | rfl <;> decide
theorem verd_eq (h1 : ∀ a x, inside park rs' a x 0 = inside park rs a x skip + sumL (legIn park a x) sz ls) (h2 : ∀ a x c, entered rs' a x c 0 = entered rs a x c skip + if cl = c then sumL (legAt a x) sz ls else 0) (h3 : traH rs' = trLegs park ls)
    (b1 : ∀ a x, 0 ≤ a → a < 3 → inside park rs a x skip ≤ (attOf park a).cap) (b2 : ∀ a x c, 0 ≤ a → a < 3 → 0 ≤ c → c < 3 → entered rs a x c skip ≤ attQ (attOf park a) c) (hl : LegB ls) (hc : 0 ≤ cl ∧ cl < 3) : verd rs' = fits park rs cl sz ls skip := by
  have ec : capH rs' = ls.all (capLeg park rs sz ls skip) := by
    rw [Bool.eq_iff_iff]
    constructor
    · intro h
      rw [List.all_eq_true]
      intro l hll
      obtain ⟨⟨a0, a1⟩, s0, s1⟩ := hl l hll
      obtain ⟨d0, d1⟩ := dw_le a0 a1
      unfold capLeg
      rw [List.all_eq_true]
      intro k hk
      rw [List.mem_range] at hk
      unfold capH at h
      rw [List.all_eq_true] at h
      have := h l.a.toNat (List.mem_range.2 (by omega))
      rw [List.all_eq_true] at this
      have := this (l.s + ((k : Nat) : Int)).toNat (List.mem_range.2 (by omega))
      rw [show ((l.a.toNat : Nat) : Int) = l.a by omega, show (((l.s + ((k : Nat) : Int)).toNat : Nat) : Int) = l.s + ((k : Nat) : Int) by omega, h1] at this
      exact this
    · intro h
      rw [List.all_eq_true] at h
      unfold capH
      rw [List.all_eq_true]
      intro a ha
      rw [List.mem_range] at ha
      rw [List.all_eq_true]
      intro x hx
      rw [h1]
      by_cases hs : sumL (legIn park (a : Nat) (x : Nat)) sz ls = 0
      · rw [hs, Int.add_zero]
        exact decide_eq_true (b1 _ _ (by omega) (by omega))
      · obtain ⟨l, hll, e⟩ := sumL_ex hs
        obtain ⟨e1, e2, e3⟩ := legIn_iff.1 e
        have := h l hll
        unfold capLeg at this
        have := List.all_eq_true.1 this (((x : Nat) : Int) - l.s).toNat (by rw [List.mem_range, e1]; omega)
        unfold capAt at this
        rw [show l.s + (((((x : Nat) : Int) - l.s).toNat : Nat) : Int) = ((x : Nat) : Int) by omega, e1] at this
        exact this
  have eq : quoH rs' = ls.all (quoLeg park rs cl sz ls skip) := by
    rw [Bool.eq_iff_iff]
    constructor
    · intro h
      rw [List.all_eq_true]
      intro l hll
      obtain ⟨⟨a0, a1⟩, s0, s1⟩ := hl l hll
      obtain ⟨d0, d1⟩ := dw_le a0 a1
      unfold quoH at h
      rw [List.all_eq_true] at h
      have := h l.a.toNat (List.mem_range.2 (by omega))
      rw [List.all_eq_true] at this
      have h44 : 44 ≤ endN := by decide
      have := this l.s.toNat (List.mem_range.2 (by omega))
      rw [List.all_eq_true] at this
      have := this cl.toNat (List.mem_range.2 (by omega))
      rw [show ((l.a.toNat : Nat) : Int) = l.a by omega, show ((l.s.toNat : Nat) : Int) = l.s by omega, show ((cl.toNat : Nat) : Int) = cl by omega, h2, if_pos rfl] at this
      exact this
    · intro h
      rw [List.all_eq_true] at h
      unfold quoH
      rw [List.all_eq_true]
      intro a ha
      rw [List.mem_range] at ha
      rw [List.all_eq_true]
      intro x hx
      rw [List.all_eq_true]
      intro c hcc
      rw [List.mem_range] at hcc
      rw [h2]
      have hb := b2 (a : Nat) (x : Nat) (c : Nat) (by omega) (by omega) (by omega) (by omega)
      by_cases hcl : cl = ((c : Nat) : Int)
      · rw [if_pos hcl]
        by_cases hs : sumL (legAt (a : Nat) (x : Nat)) sz ls = 0
        · rw [hs, Int.add_zero]
          exact decide_eq_true hb
        · obtain ⟨l, hll, e⟩ := sumL_ex hs
          obtain ⟨e1, e2⟩ := legAt_iff.1 e
          have := h l hll
          unfold quoLeg at this
          rw [e1, e2, hcl] at this
          exact this
      · rw [if_neg hcl, Int.add_zero]
        exact decide_eq_true hb
  unfold verd fits
  rw [ec, eq, h3]
theorem traH_all (h : ∀ r ∈ rs, live r.st = true → trLegs park r.legs = true) : traH rs = true := by
  unfold traH
  rw [List.all_eq_true]
  intro r hr
  cases hl : live r.st with
  | false => rfl
  | true => rw [h r hr hl]; rfl
/-- one more record that counts -/
theorem verd_add {r : Rec} (h : Ld park rs) (hl : live r.st = true) (hi : 1 ≤ r.id) (hlg : LegB r.legs) (hc : 0 ≤ r.cl ∧ r.cl < 3) : verd (rs ++ [r]) = fits park rs r.cl r.sz r.legs 0 := by
  refine verd_eq (fun a x => ?_) (fun a x c => ?_) ?_ (fun a x q0 q1 => h.cap a x q0 q1) (fun a x c q0 q1 q2 q3 => h.quo a x c q0 q1 q2 q3) hlg hc
  · rw [inside_app, recIn_new hl (by omega)]
  · rw [entered_app, recAt_new hl (by omega)]
  · unfold traH
    rw [List.all_append]
    have := traH_all h.tr
    unfold traH at this
    rw [this]
    simp [hl]
/-- a record in the place of one that did not count or is passed over -/
theorem verd_put {i : Nat} {r' : Rec} (hi : i < rs.length) (h : Ld park rs) (hp : Pos rs) (hz : live rs[i].st = false ∨ rs[i].id = skip) (hne : ∀ j (hj : j < rs.length), j ≠ i → rs[j].id ≠ skip) (hid : 1 ≤ r'.id)
    (hl : live r'.st = true) (hlg : LegB r'.legs) (hc : 0 ≤ r'.cl ∧ r'.cl < 3) : verd (rs.set i r') = fits park rs r'.cl r'.sz r'.legs skip := by
  have j0 : ∀ j (hj : j < rs.length), (rs[j].id == 0) = false := fun j hj => beq_eq_false_iff_ne.2 (by have := (hp _ (List.getElem_mem hj)).1; omega)
  refine verd_eq (fun a x => ?_) (fun a x c => ?_) ?_ (fun a x q0 q1 => ?_) (fun a x c q0 q1 q2 q3 => ?_) hlg hc
  · have e : inside park (rs.set i r') a x 0 = inside park rs a x skip + recIn park a x 0 r' := by
      refine sum_set (g := recIn park a x 0) (h := recIn park a x skip) hi ?_ fun j hj q => ?_
      · unfold recIn
        rcases hz with q | q
        · rw [q]; simp
        · rw [q]; simp
      · unfold recIn
        rw [j0 j hj, beq_eq_false_iff_ne.2 (hne j hj q)]
    rw [e, recIn_new hl (by omega)]
  · have e : entered (rs.set i r') a x c 0 = entered rs a x c skip + recAt a x c 0 r' := by
      refine sum_set (g := recAt a x c 0) (h := recAt a x c skip) hi ?_ fun j hj q => ?_
      · unfold recAt
        rcases hz with q | q
        · rw [q]; simp
        · rw [q]; simp
      · unfold recAt
        rw [j0 j hj, beq_eq_false_iff_ne.2 (hne j hj q)]
    rw [e, recAt_new hl (by omega)]
  · rw [Bool.eq_iff_iff]
    constructor
    · intro q
      unfold traH at q
      rw [List.all_eq_true] at q
      have := q r' (List.mem_iff_getElem.2 ⟨i, by rw [List.length_set]; exact hi, List.getElem_set_self _⟩)
      rw [hl] at this
      simpa using this
    · intro q
      refine traH_all fun r hr hl' => ?_
      rcases List.mem_or_eq_of_mem_set hr with q2 | q2
      · exact h.tr r q2 hl'
      · rw [q2]; exact q
  · exact Int.le_trans (sum_le fun r hr => skip_in (hp r hr)) (h.cap a x q0 q1)
  · exact Int.le_trans (sum_le fun r hr => skip_at (hp r hr)) (h.quo a x c q0 q1 q2 q3)
end
end Go.Proofs.Qxb6500896aGreat
