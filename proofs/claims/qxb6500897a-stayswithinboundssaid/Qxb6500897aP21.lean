import Derived.Test.Qxb6500897aP20
namespace Go.Proofs.Qxb6500897a
open Go.Sh Go.RowKit
set_option linter.unusedVariables false
set_option linter.unusedSimpArgs false

theorem Inv.adv {now n : Int} {L : List Ent} (h : Inv now L) (m0 : 0 ≤ n) (m1 : n ≤ 90 - now) : Inv (now + n) L := by
  have n0 := h.n0
  exact ⟨by omega, by omega, fun e he => by have := h.sl e he; exact ⟨by omega, this.2⟩, h.en, h.ii⟩

theorem Inv.letIn {now : Int} {L : List Ent} (h : Inv now L) {a c : Nat} {s n : Int} (ha : a < 4) (hc : c < 3) (s1 : s ≤ now + 5) (n1 : 1 ≤ n)
    (hi : ∀ v, s ≤ v → v < s + dw a → ins L a (dw a) v ≤ (pa a).cap - n) (he : n ≤ (pa a).q c - ent L a s c) : Inv now (L ++ [⟨a, s, c, n⟩]) := by
  refine ⟨h.n0, h.n1, ?_, ?_, ?_⟩
  · intro e hem
    rw [List.mem_append, List.mem_singleton] at hem
    rcases hem with hem | rfl
    · exact h.sl e hem
    · exact ⟨s1, ha, hc⟩
  · intro b v c' hc'
    have hb := h.en b v c' hc'
    rw [ent_append]
    unfold entT
    by_cases hq : a = b ∧ s = v ∧ c = c'
    · rw [if_pos hq]
      obtain ⟨rfl, rfl, rfl⟩ := hq
      show 0 ≤ ent L a s c + n ∧ ent L a s c + n ≤ (pa a).q c
      omega
    · rw [if_neg hq]; omega
  · intro b v
    have hb := h.ii b v
    rw [ins_append]
    unfold insT
    by_cases hq : a = b ∧ s ≤ v ∧ v < s + dw b
    · rw [if_pos hq]
      obtain ⟨rfl, q1, q2⟩ := hq
      have := hi v q1 q2
      show 0 ≤ ins L a (dw a) v + n ∧ ins L a (dw a) v + n ≤ (pa a).cap
      omega
    · rw [if_neg hq]; omega

theorem ent_le_ins {now : Int} {L : List Ent} (h : Inv now L) {a c : Nat} (hc : c < 3) {s v : Int} (v0 : s ≤ v) (v1 : v < s + dw a) : ent L a s c ≤ ins L a (dw a) v := by
  have hb := pa_bd a
  have hdw : (pa a).dwell = dw a := rfl
  rw [ins_sum (fun e he => (h.sl e he).2.2) a (dw a) v (by omega)]
  have := (sE_ge (f := ent L a) (fun u c hc => (h.en a u c hc).1) v (dw a).toNat).2 (v - s).toNat c (by omega) hc
  have e : v - ((v - s).toNat : Nat) = s := by omega
  rw [e] at this
  exact this

theorem Inv.release {now : Int} {L : List Ent} (h : Inv now L) {a c : Nat} {s n : Int} (ha : a < 4) (hc : c < 3) (s1 : s ≤ now + 5) (n1 : 1 ≤ n) (he : n ≤ ent L a s c) : Inv now (L ++ [⟨a, s, c, -n⟩]) := by
  refine ⟨h.n0, h.n1, ?_, ?_, ?_⟩
  · intro e hem
    rw [List.mem_append, List.mem_singleton] at hem
    rcases hem with hem | rfl
    · exact h.sl e hem
    · exact ⟨s1, ha, hc⟩
  · intro b v c' hc'
    have hb := h.en b v c' hc'
    rw [ent_append]
    unfold entT
    by_cases hq : a = b ∧ s = v ∧ c = c'
    · rw [if_pos hq]
      obtain ⟨rfl, rfl, rfl⟩ := hq
      show 0 ≤ ent L a s c + -n ∧ ent L a s c + -n ≤ (pa a).q c
      omega
    · rw [if_neg hq]; omega
  · intro b v
    have hb := h.ii b v
    rw [ins_append]
    unfold insT
    by_cases hq : a = b ∧ s ≤ v ∧ v < s + dw b
    · rw [if_pos hq]
      obtain ⟨rfl, q1, q2⟩ := hq
      have := ent_le_ins h hc q1 q2
      show 0 ≤ ins L a (dw a) v + -n ∧ ins L a (dw a) v + -n ≤ (pa a).cap
      omega
    · rw [if_neg hq]; omega
end Go.Proofs.Qxb6500897a
