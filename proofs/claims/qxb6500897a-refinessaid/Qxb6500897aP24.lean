import Derived.Test.Qxb6500897aP23
namespace Go.Proofs.Qxb6500897a
open Go.Sh Go.RowKit
set_option linter.unusedVariables false
set_option linter.unusedSimpArgs false

/-! ### the model's step, purely -/
def fitM (L : List Ent) (a : Nat) (s : Int) (c : Nat) (n : Int) : Int :=
  if (List.range (dw a).toNat).all fun j => decide (ins L a (dw a) (s + (j : Nat)) ≤ (pa a).cap - n) then (if (pa a).q c - ent L a s c < n then 6 else 0) else 5

theorem all_range {L : List Ent} {a : Nat} {s m : Int} : ((List.range (dw a).toNat).all fun j => decide (ins L a (dw a) (s + (j : Nat)) ≤ m)) = true ↔ ∀ v, s ≤ v → v < s + dw a → ins L a (dw a) v ≤ m := by
  rw [List.all_eq_true]
  constructor
  · intro h v v0 v1
    have := h (v - s).toNat (by rw [List.mem_range]; omega)
    have e : s + ((v - s).toNat : Nat) = v := by omega
    rw [e] at this
    simpa using this
  · intro h j hj
    rw [List.mem_range] at hj
    simpa using h (s + j) (by omega) (by omega)

theorem Ring.fitM {now : Int} {L : List Ent} {a c : Nat} {t : Tab} {s n : Int} (h : Ring now L a t) (n0 : 0 ≤ now) (s0 : now ≤ s) (s1 : s ≤ now + 5) (hc : c < 3) : fitsF t s c n = fitM L a s c n := by
  obtain ⟨h0, h5, hor⟩ := h.fits (n := n) n0 s0 s1 hc
  unfold Go.Proofs.Qxb6500897a.fitM
  by_cases hall : ∀ v, s ≤ v → v < s + dw a → ins L a (dw a) v ≤ (pa a).cap - n
  · rw [if_pos (all_range.2 hall)]
    by_cases hq : (pa a).q c - ent L a s c < n
    · rw [if_pos hq]
      rcases hor with e | e | e
      · exact absurd (h0.1 e).2 (by omega)
      · exact absurd hall (h5.1 e)
      · exact e
    · rw [if_neg hq]; exact h0.2 ⟨hall, by omega⟩
  · rw [if_neg (fun q => hall (all_range.1 q))]
    exact h5.2 hall

def mFits (now : Int) (L : List Ent) (attr slot cls n : Int) : Int :=
  if chkP now attr slot cls n 0 = 0 then fitM L attr.toNat slot cls.toNat n else chkP now attr slot cls n 0

theorem chkP_ok {now attr slot cls n : Int} {r : Nat} (h : chkP now attr slot cls n r = 0) :
    0 ≤ attr ∧ attr < 4 ∧ 0 ≤ cls ∧ cls < 3 ∧ 1 ≤ n ∧ now - (if r = 0 then 0 else dw attr.toNat - 1) ≤ slot ∧ slot ≤ now + 5 + (if r = 2 then dw attr.toNat - 1 else 0) := by
  unfold chkP at h
  split at h
  · omega
  split at h
  · omega
  split at h
  · omega
  split at h
  · omega
  omega

theorem Good.fitsC {now : Int} {ts : List Tab} {L : List Ent} (h : Good now ts L) (attr slot cls n : Int) : fitsC now ts attr slot cls n = mFits now L attr slot cls n := by
  unfold Go.Proofs.Qxb6500897a.fitsC mFits
  rw [h.chk]
  by_cases hc : chkP now attr slot cls n 0 = 0
  · rw [if_pos hc, if_pos hc]
    have hk := chkP_ok hc
    have ha : attr.toNat < ts.length := by rw [h.len]; omega
    rw [tabOf_eq ha]
    exact (h.ring _ ha).fitM h.inv.n0 (by simpa using hk.2.2.2.2.2.1) (by simpa using hk.2.2.2.2.2.2) (by omega)
  · rw [if_neg hc, if_neg hc]
end Go.Proofs.Qxb6500897a
