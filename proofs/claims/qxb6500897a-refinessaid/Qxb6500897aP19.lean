import Derived.Test.Qxb6500897aP18
namespace Go.Proofs.Qxb6500897a
open Go.Sh Go.RowKit
set_option linter.unusedVariables false
set_option linter.unusedSimpArgs false

theorem Ring.adv {now n : Int} {L : List Ent} {a : Nat} {t : Tab} (h : Ring now L a t) (hi : Inv now L) (m0 : 0 ≤ n) : Ring (now + n) L a (advF now n t) := by
  have hb := pa_bd a
  have hdw : (pa a).dwell = dw a := rfl
  have hl := h.len
  have n0 := hi.n0
  have hL : 0 < t.occ.length := by omega
  have eps : ∀ v, ps t v = (v + (dw a - 1)).toNat := by intro v; unfold ps; rw [h.att]
  have el : (advF now n t).occ.length = t.occ.length := clrO_length _ _ _
  have eps2 : ∀ v, ps (advF now n t) v = (v + (dw a - 1)).toNat := by
    intro v; unfold ps
    have : (advF now n t).att = t.att := rfl
    rw [this, h.att]
  -- the place of a slot of the new window, in the old one
  have key : ∀ v, now + n - (dw a - 1) ≤ v → v ≤ now + n + 5 + (dw a - 1) → ∃ y, now.toNat ≤ y ∧ y < now.toNat + t.occ.length ∧ (v + (dw a - 1)).toNat % t.occ.length = y % t.occ.length ∧
      ((v ≤ now + 5 + (dw a - 1) ∧ y = (v + (dw a - 1)).toNat ∧ ¬ y < now.toNat + min n.toNat t.occ.length) ∨ (now + 5 + dw a ≤ v ∧ y < now.toNat + min n.toNat t.occ.length)) := by
    intro v v0 v1
    by_cases hv : v ≤ now + 5 + (dw a - 1)
    · exact ⟨(v + (dw a - 1)).toNat, by omega, by omega, rfl, .inl ⟨hv, rfl, by omega⟩⟩
    · have hm := Nat.mod_lt ((v + (dw a - 1)).toNat - now.toNat) hL
      have hdm := Nat.div_add_mod ((v + (dw a - 1)).toNat - now.toNat) t.occ.length
      refine ⟨now.toNat + ((v + (dw a - 1)).toNat - now.toNat) % t.occ.length, by omega, by omega, ?_, .inr ⟨by omega, ?_⟩⟩
      · have : (v + (dw a - 1)).toNat = now.toNat + ((v + (dw a - 1)).toNat - now.toNat) := by omega
        conv => lhs; rw [this]
        rw [Nat.add_mod_mod]
      · by_cases hn : n.toNat < t.occ.length
        · have e1 : ((v + (dw a - 1)).toNat - now.toNat) = ((v + (dw a - 1)).toNat - now.toNat - t.occ.length) + t.occ.length := by omega
          have e2 : ((v + (dw a - 1)).toNat - now.toNat) % t.occ.length = (v + (dw a - 1)).toNat - now.toNat - t.occ.length := by
            rw [e1, Nat.add_mod_right, Nat.mod_eq_of_lt (by omega)]; omega
          omega
        · omega
  refine ⟨h.att, by rw [el]; exact hl, ?_, fun v v0 v1 => ?_, fun v c v0 v1 hc => ?_⟩
  · rw [el]
    have : (advF now n t).adm.length = t.adm.length := clrA_length _ _ _ _
    rw [this]; exact h.adl
  · obtain ⟨y, y0, y1, ey, hy⟩ := key v v0 v1
    unfold occOf
    rw [el, eps2, ey]
    show (clrO t.occ now.toNat (min n.toNat t.occ.length)).getD _ 0 = _
    rw [clrO_get hL y0 y1 _ (by omega)]
    rcases hy with ⟨hv, e, hn⟩ | ⟨hv, hn⟩
    · rw [if_neg hn, ← h.occ v (by omega) hv]
      unfold occOf
      rw [eps, e]
    · rw [if_pos hn, ins_late hi a hv]
  · obtain ⟨y, y0, y1, ey, hy⟩ := key v v0 v1
    unfold admOf
    rw [el, eps2, ey]
    show (clrA t.adm t.occ.length now.toNat (min n.toNat t.occ.length)).getD _ 0 = _
    rw [clrA_get hL h.adl hc y0 y1 _ (by omega)]
    rcases hy with ⟨hv, e, hn⟩ | ⟨hv, hn⟩
    · rw [if_neg hn, ← h.adm v c (by omega) hv hc]
      unfold admOf
      rw [eps, e]
    · rw [if_pos hn, ent_late hi a c (by omega)]
end Go.Proofs.Qxb6500897a
