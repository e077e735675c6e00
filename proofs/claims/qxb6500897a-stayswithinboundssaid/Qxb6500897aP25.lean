import Derived.Test.Qxb6500897aP24
namespace Go.Proofs.Qxb6500897a
open Go.Sh Go.RowKit
set_option linter.unusedVariables false
set_option linter.unusedSimpArgs false

def mRel (now : Int) (L : List Ent) (attr slot cls n : Int) : Int :=
  if chkP now attr slot cls n 1 = 0 then (if ent L attr.toNat slot cls.toNat < n then 7 else 0) else chkP now attr slot cls n 1

theorem Good.relC {now : Int} {ts : List Tab} {L : List Ent} (h : Good now ts L) (attr slot cls n : Int) : relC now ts attr slot cls n = mRel now L attr slot cls n := by
  unfold Go.Proofs.Qxb6500897a.relC mRel
  rw [h.chk]
  by_cases hc : chkP now attr slot cls n 1 = 0
  · rw [if_pos hc, if_pos hc]
    have hk := chkP_ok hc
    have hb := pa_bd attr.toNat
    have hdw : (pa attr.toNat).dwell = dw attr.toNat := rfl
    have ha : attr.toNat < ts.length := by rw [h.len]; omega
    simp at hk
    rw [tabOf_eq ha, (h.ring _ ha).adm slot cls.toNat (by omega) (by omega) (by omega)]
  · rw [if_neg hc, if_neg hc]

/-- the ledger after a step -/
def stepL (now : Int) (L : List Ent) (o : Op) : List Ent :=
  if o.kind = 0 then (if mFits now L o.attr o.slot o.cls o.n = 0 then L ++ [⟨o.attr.toNat, o.slot, o.cls.toNat, o.n⟩] else L)
  else if o.kind = 1 then (if mRel now L o.attr o.slot o.cls o.n = 0 then L ++ [⟨o.attr.toNat, o.slot, o.cls.toNat, -o.n⟩] else L)
  else L

theorem Good.step {now : Int} {ts : List Tab} {L : List Ent} (h : Good now ts L) (o : Op) : Good (stepP now ts o).now (stepP now ts o).ts (stepL now L o) := by
  unfold stepP stepL
  by_cases k0 : o.kind = 0
  · simp only [if_pos k0]
    unfold admitTs
    rw [h.fitsC]
    by_cases hf : mFits now L o.attr o.slot o.cls o.n = 0
    · rw [if_pos hf, if_pos hf]
      unfold mFits at hf
      by_cases hc : chkP now o.attr o.slot o.cls o.n 0 = 0
      · rw [if_pos hc] at hf
        have hk := chkP_ok hc
        simp at hk
        have hb := pa_bd o.attr.toNat
        have hdw : (pa o.attr.toNat).dwell = dw o.attr.toNat := rfl
        have ha : o.attr.toNat < ts.length := by rw [h.len]; omega
        rw [tabOf_eq ha]
        have hr := h.ring _ ha
        rw [← hr.fitM h.inv.n0 (by omega) (by omega) (by omega)] at hf
        have hff := ((hr.fits h.inv.n0 (by omega) (by omega) (by omega)).1).1 hf
        refine h.set ha (h.inv.letIn (by omega) (by omega) (by omega) (by omega) hff.1 hff.2) (by omega) (by omega) (by omega)
      · rw [if_neg hc] at hf; exact absurd hf hc
    · rw [if_neg hf, if_neg hf]; exact h
  simp only [if_neg k0]
  by_cases k1 : o.kind = 1
  · simp only [if_pos k1]
    unfold relTs
    rw [h.relC]
    by_cases hf : mRel now L o.attr o.slot o.cls o.n = 0
    · rw [if_pos hf, if_pos hf]
      unfold mRel at hf
      by_cases hc : chkP now o.attr o.slot o.cls o.n 1 = 0
      · rw [if_pos hc] at hf
        have hk := chkP_ok hc
        simp at hk
        have ha : o.attr.toNat < ts.length := by rw [h.len]; omega
        rw [tabOf_eq ha]
        have he : o.n ≤ ent L o.attr.toNat o.slot o.cls.toNat := by
          by_cases q : ent L o.attr.toNat o.slot o.cls.toNat < o.n
          · rw [if_pos q] at hf; omega
          · omega
        refine h.set ha (h.inv.release (by omega) (by omega) (by omega) (by omega) he) (by omega) (by omega) (by omega)
      · rw [if_neg hc] at hf; exact absurd hf hc
    · rw [if_neg hf, if_neg hf]; exact h
  simp only [if_neg k1]
  by_cases k2 : o.kind = 2
  · simp only [if_pos k2]
    unfold advNow advTs
    by_cases hc : advC now o.n = 0
    · rw [if_pos hc, if_pos hc]
      have hn : 0 ≤ o.n ∧ o.n ≤ 90 - now := by
        unfold advC at hc
        split at hc
        · omega
        split at hc
        · omega
        omega
      refine ⟨h.inv.adv hn.1 hn.2, by simpa using h.len, fun a ha => ?_⟩
      rw [List.getElem_map]
      exact (h.ring a (by simpa using ha)).adv h.inv hn.1
    · rw [if_neg hc, if_neg hc]; exact h
  simp only [if_neg k2]
  repeat (first | exact h | (split; exact h))
end Go.Proofs.Qxb6500897a
