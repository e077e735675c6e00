import Derived.Test.Qxb6500896aGreatDoorC10
import Derived.Test.Qxb6500896aGreatDoorN23
import Derived.Test.Qxb6500896aGreatDoorGB
import Derived.Test.Qxb6500896aGreatDoorShMap
namespace Go.Proofs.Qxb6500896aGreatDoor
open Go.Sh Go.RowKit Classical
set_option linter.unusedVariables false
set_option linter.unusedSimpArgs false

section
variable {w : World} {K : Value → World → Prop}
theorem leg_ne {x y : Operand} {a b : Leg} (hK : K (.bool (!(legAt b.a b.s a))) w) : bor Tryz.prog .neq 116 x y (.agg (lC a).toArray) (.agg (lC b).toArray) K w := by
  refine bor_neq_flat (P := Tryz.prog) (t := 116) (x := x) (y := y) (K := K) (w := w) (xs := [I a.a, I a.s]) (ys := [I b.a, I b.s]) (ps := [(.i64, a.a, b.a), (.i64, a.s, b.s)]) lg_g lg_u lg_h (lg_flat a.a a.s b.a b.s) ?_
  have e : ([(IntKind.i64, a.a, b.a), (.i64, a.s, b.s)] : List (IntKind × Int × Int)).all (fun q => q.2.1 == q.2.2) = legAt b.a b.s a := by simp [legAt]
  rw [e]
  exact hK
end
theorem legAt_eq {a b : Leg} : legAt b.a b.s a = decide (a = b) := by
  cases a; cases b
  unfold legAt
  rw [Bool.eq_iff_iff]
  simp
section
variable {F G : Nat → Prop} {w w' w1 : World} {av bv : Value} {xa bs : List Leg} {K : Value → World → Prop}
theorem sameLegs_ok (ha : Ar lC 2 F w av xa) (hb : Ar lC 2 G w bv bs) (hK : ∀ w', Kp Emp w w' → K (.bool (decide (xa = bs))) w') : cl Tryz.prog 19 #[av, bv] K w := by
  apply c19
  unfold s19_p8
  refine ha.ln ?_
  refine hb.ln ?_
  have la := ha.len
  have lb := hb.len
  by_cases hl : xa.length = bs.length
  · have e0 : (((xa.length : Nat) : Int) != ((bs.length : Nat) : Int)) = false := by rw [hl]; simp
    simp only [e_neq, e0, e_iff]
    refine ha.ln ?_
    unfold s19_p7
    refine loop_n xa.length (fun i l w' => l = [av, bv, I (xa.length : Nat), I (i : Nat)] ∧ Kp Emp w w' ∧ xa.take i = bs.take i) ⟨rfl, Kp.refl _ _, rfl⟩ ?_ ?_
    · rintro i l w2 hi ⟨rfl, k2, he⟩ B hB
      rw [s19_p7_Fe]
      unfold s19_p6
      simp only [dlt hi, e_lss, e_ift]
      unfold s19_p5 s19_p4 s19_p4_d
      have kd : Kp Emp w2 (drw w2) := kp_drw
      generalize drw w2 = w3 at kd ⊢
      have k3 := k2.trans kd
      have hi2 : i < bs.length := by omega
      refine (ha.kp' k3).ix hi fun b1 o1 _ c1 => ?_
      refine c1.ldn (lC_len _) ?_
      refine (hb.kp' k3).ix hi2 fun b2 o2 _ c2 => ?_
      refine c2.ldn (lC_len _) ?_
      refine ⟨.bool (!(legAt bs[i].a bs[i].s xa[i])), fun w _ => leg_ne ⟨rfl, rfl⟩, ?_⟩
      rw [legAt_eq]
      unfold s19_p3
      by_cases hq : xa[i] = bs[i]
      · rw [decide_eq_true hq]
        simp only [Bool.not_true, e_iff]
        unfold s19_p2
        simp only [e_add]
        rw [inc i (by omega)]
        exact hB _ _ ⟨rfl, k3, by rw [List.take_succ_eq_append_getElem hi, List.take_succ_eq_append_getElem hi2, he, hq]⟩
      · rw [decide_eq_false hq]
        simp only [Bool.not_false, e_ift]
        rw [show decide (xa = bs) = false from decide_eq_false fun q => hq (by subst q; rfl)] at hK
        exact hK w3 k3
    · rintro l w2 ⟨rfl, k2, he⟩ B
      rw [s19_p7_Fe]
      unfold s19_p6
      simp only [dnlt, e_lss, e_iff]
      unfold s19_p1
      rw [List.take_length, List.take_of_length_le (by omega)] at he
      rw [decide_eq_true he] at hK
      exact hK w2 k2
  · have e0 : (((xa.length : Nat) : Int) != ((bs.length : Nat) : Int)) = true := by rw [bne_iff_ne]; omega
    simp only [e_neq, e0, e_ift]
    rw [show decide (xa = bs) = false from decide_eq_false fun q => hl (by rw [q])] at hK
    exact hK w (Kp.refl _ _)
end
/-- the laid table of moves -/
def Gm (W : World) : Prop := ∃ bm, Cells W 0 0 [.map (some bm)] ∧ bm < W.heap.size ∧ ∀ (w : World) (a : Int), w.heap[bm]? = W.heap[bm]? → (1 ≤ a ∧ a ≤ 9) → ∃ v, (Instr.lookup 114 (.map (some bm)) (I a) false).run Tryz.prog w = .ok v w ∧ Ar iC 1 (fun b => b < W.heap.size) W v (moves a)
theorem moves_len (a : Int) : (moves a).length ≤ 3 := by
  unfold moves
  repeat' split
  all_goals decide
section
variable {W w w' : World} {K : Value → World → Prop} {a b : Int}
theorem mayMove_ok (hG : Gm W) (hk : Kp Emp W w) (ha : 1 ≤ a ∧ a ≤ 9) (hK : ∀ w', Kp Emp w w' → K (.bool (decide (b ∈ moves a))) w') : cl Tryz.prog 18 #[I a, I b] K w := by
  obtain ⟨bm, hc, hlt, hl⟩ := hG
  apply c18
  unfold s18_p4
  refine (hc.kp' hk).ld0 (v := .map (some bm)) rfl ?_
  obtain ⟨v, hrun, hA⟩ := hl w a (hk.block bm hlt fun q => q) ha
  refine rs_ok (v := v) (w' := w) hrun ?_
  refine hA.ln ?_
  have hml := moves_len a
  unfold s18_p3
  refine loop_n (moves a).length (fun i l w' => l = [I b, v, I ((moves a).length : Nat), I (i : Nat)] ∧ Kp Emp w w' ∧ ∀ x ∈ (moves a).take i, x ≠ b) ⟨rfl, Kp.refl _ _, fun x hx => by simp at hx⟩ ?_ ?_
  · rintro i l w1 hi ⟨rfl, k1, hno⟩ B hB
    rw [s18_p3_Fe]
    unfold s18_p2
    simp only [dlt hi, e_lss, e_ift]
    refine (hA.kp' (hk.trans k1)).ix hi fun b1 o1 _ c1 => ?_
    refine c1.ld0 (v := I (moves a)[i]) rfl ?_
    simp only [e_eql]
    by_cases h : (moves a)[i] = b
    · have e : ((moves a)[i] == b) = true := by rw [h]; simp
      simp only [e, e_ift]
      rw [decide_eq_true (show b ∈ moves a from h ▸ List.getElem_mem hi)] at hK
      exact hK w1 k1
    · have e : ((moves a)[i] == b) = false := by rw [beq_eq_false_iff_ne]; exact h
      simp only [e, e_iff, e_add]
      rw [inc i (by omega)]
      refine hB _ _ ⟨rfl, k1, fun x hx => ?_⟩
      rw [List.take_succ_eq_append_getElem hi] at hx
      rcases List.mem_append.1 hx with q | q
      · exact hno x q
      · rw [List.mem_singleton.1 q]; exact h
  · rintro l w1 ⟨rfl, k1, hno⟩ B
    rw [s18_p3_Fe]
    unfold s18_p2
    simp only [dnlt, e_lss, e_iff]
    unfold s18_p1
    rw [List.take_length] at hno
    rw [decide_eq_false (show ¬ b ∈ moves a from fun q => hno b q rfl)] at hK
    exact hK w1 k1
end
end Go.Proofs.Qxb6500896aGreatDoor
