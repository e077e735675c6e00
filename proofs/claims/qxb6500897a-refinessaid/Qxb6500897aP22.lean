import Derived.Test.Qxb6500897aP21
namespace Go.Proofs.Qxb6500897a
open Go.Sh Go.RowKit
set_option linter.unusedVariables false
set_option linter.unusedSimpArgs false

/-- the test of an admission, by the ledger -/
theorem Ring.fits {now : Int} {L : List Ent} {a c : Nat} {t : Tab} {s n : Int} (h : Ring now L a t) (n0 : 0 ≤ now) (s0 : now ≤ s) (s1 : s ≤ now + 5) (hc : c < 3) :
    (fitsF t s c n = 0 ↔ (∀ v, s ≤ v → v < s + dw a → ins L a (dw a) v ≤ (pa a).cap - n) ∧ n ≤ (pa a).q c - ent L a s c) ∧
    (fitsF t s c n = 5 ↔ ¬ ∀ v, s ≤ v → v < s + dw a → ins L a (dw a) v ≤ (pa a).cap - n) ∧ (fitsF t s c n = 0 ∨ fitsF t s c n = 5 ∨ fitsF t s c n = 6) := by
  have hb := pa_bd a
  have hdw : (pa a).dwell = dw a := rfl
  have hp := h.peak n0 (m := (pa a).cap - n) s0 s1
  have ha : t.adm.getD (ps t s % t.occ.length * 3 + c) 0 = ent L a s c := h.adm s c (by omega) (by omega) hc
  unfold fitsF
  have ecap : t.att.cap = (pa a).cap := by rw [h.att]
  have eq : t.att.q c = (pa a).q c := by rw [h.att]
  by_cases h1 : pkN t (ps t s) (t.att.dwell - 1).toNat ≤ (pa a).cap - n
  · rw [if_neg (by rw [ecap]; show ¬ (_ - pkN t (ps t s) _ < n); omega)]
    have hall := hp.1 h1
    by_cases h2 : (pa a).q c - ent L a s c < n
    · rw [if_pos (by rw [eq]; show _ - t.adm.getD (ps t s % t.occ.length * 3 + c) 0 < n; rw [ha]; exact h2)]
      exact ⟨⟨fun e => by omega, fun e => by omega⟩, ⟨fun e => by omega, fun e => absurd hall e⟩, by omega⟩
    · rw [if_neg (by rw [eq]; show ¬ (_ - t.adm.getD (ps t s % t.occ.length * 3 + c) 0 < n); rw [ha]; exact h2)]
      exact ⟨⟨fun _ => ⟨hall, by omega⟩, fun _ => rfl⟩, ⟨fun e => by omega, fun e => absurd hall e⟩, by omega⟩
  · rw [if_pos (by rw [ecap]; show _ - pkN t (ps t s) _ < n; omega)]
    have hno : ¬ ∀ v, s ≤ v → v < s + dw a → ins L a (dw a) v ≤ (pa a).cap - n := fun q => h1 (hp.2 q)
    exact ⟨⟨fun e => by omega, fun e => absurd e.1 hno⟩, ⟨fun _ => hno, fun _ => rfl⟩, by omega⟩
end Go.Proofs.Qxb6500897a
