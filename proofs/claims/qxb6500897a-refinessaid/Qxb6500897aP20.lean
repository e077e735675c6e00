import Derived.Test.Qxb6500897aP19
namespace Go.Proofs.Qxb6500897a
open Go.Sh Go.RowKit
set_option linter.unusedVariables false
set_option linter.unusedSimpArgs false

theorem pkN_le {t : Tab} {x : Nat} {m : Int} : ∀ k, pkN t x k ≤ m ↔ ∀ j, j ≤ k → t.occ.getD ((x + j) % t.occ.length) 0 ≤ m := by
  intro k
  induction k with
  | zero =>
    rw [pkN]
    constructor
    · intro h j hj
      have : j = 0 := by omega
      subst this; exact h
    · intro h; exact h 0 (by omega)
  | succ k ih =>
    rw [pkN]
    constructor
    · intro h j hj
      by_cases hc : t.occ.getD ((x + (k + 1)) % t.occ.length) 0 > pkN t x k
      · rw [if_pos hc] at h
        by_cases hj2 : j = k + 1
        · rw [hj2]; exact h
        · exact ih.1 (by omega) j (by omega)
      · rw [if_neg hc] at h
        by_cases hj2 : j = k + 1
        · rw [hj2]; omega
        · exact ih.1 h j (by omega)
    · intro h
      have h1 := ih.2 fun j hj => h j (by omega)
      have h2 := h (k + 1) (by omega)
      by_cases hc : t.occ.getD ((x + (k + 1)) % t.occ.length) 0 > pkN t x k
      · rw [if_pos hc]; exact h2
      · rw [if_neg hc]; exact h1

/-- the highest occupancy, by the ledger -/
theorem Ring.peak {now : Int} {L : List Ent} {a : Nat} {t : Tab} (h : Ring now L a t) (n0 : 0 ≤ now) {s m : Int} (s0 : now ≤ s) (s1 : s ≤ now + 5) :
    pkN t (ps t s) (t.att.dwell - 1).toNat ≤ m ↔ ∀ v, s ≤ v → v < s + dw a → ins L a (dw a) v ≤ m := by
  have hb := pa_bd a
  have hdw : (pa a).dwell = dw a := rfl
  have eps : ∀ v, ps t v = (v + (dw a - 1)).toNat := by intro v; unfold ps; rw [h.att]
  rw [pkN_le]
  constructor
  · intro hh v v0 v1
    have := hh (v - s).toNat (by rw [h.att]; omega)
    rw [← h.occ v (by omega) (by omega)]
    unfold occOf
    have e : ps t s + (v - s).toNat = ps t v := by rw [eps, eps]; omega
    rw [e] at this
    exact this
  · intro hh j hj
    rw [h.att] at hj
    have := hh (s + j) (by omega) (by omega)
    rw [← h.occ (s + j) (by omega) (by omega)] at this
    unfold occOf at this
    have e : ps t s + j = ps t (s + j) := by rw [eps, eps]; omega
    rw [e]
    exact this
end Go.Proofs.Qxb6500897a
