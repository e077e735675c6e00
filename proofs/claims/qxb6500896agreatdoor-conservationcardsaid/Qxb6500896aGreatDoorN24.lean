import Derived.Test.Qxb6500896aGreatDoorN23
import Derived.Test.Qxb6500896aGreatDoorN17
namespace Go.Proofs.Qxb6500896aGreatDoor
open Go.Sh Go.RowKit
set_option linter.unusedVariables false
set_option linter.unusedSimpArgs false

section
variable {Q Q' : Sg → Prop} {σ σ' : Sg} {J J' : Jr} {q : Rq} {bs : List Int} {B : List Rec}
theorem coreC_core (σ : Sg) : CoreC (Core σ) := fun a b c q => q.trans c
theorem coreC_rel (B : List Rec) : CoreC (fun s => Rel B s.rs) := fun a b c q => by show Rel B b.rs; rw [c.rs]; exact q
/-- a text that is no request is refused -/
theorem hnd_form (hd : σ.down = false) (h : (dec bs).2 ≠ 0) : (hndS park bs σ J).2.2.code ≠ 0 := by
  unfold hndS
  simp only
  split
  · unfold stbS
    rw [if_neg (by rw [hd]; decide), if_neg h]
    show ((((dec bs).2 : Nat) : Int)) ≠ 0
    omega
  · show (19 : Int) ≠ 0
    decide
/-- an engine that is down stays down, and its journal as it is -/
theorem hnd_dn (hd : σ.down = true) : (hndS park bs σ J).1.down = true ∧ (hndS park bs σ J).2.1 = J := by
  have e : stbS park bs σ J = (refS 19 { σ with sr := w1 σ.sr }, J, rf 19) := by unfold stbS; rw [if_pos hd]
  have hd2 : (refS 19 { σ with sr := w1 σ.sr }).down = true := by rw [(refS_o _ _).1]; exact hd
  unfold hndS
  simp only
  rw [e]
  simp only
  unfold setS
  rw [if_pos hd2]
  exact ⟨hd2, rfl⟩
theorem isQ_of {op : Int} (h : op = 1 ∨ op = 5 ∨ op = 6) : isQ op = false := by
  unfold isQ
  rcases h with rfl | rfl | rfl <;> rfl
/-- a request, for the law of conservation -/
theorem cons_step (h : RgQ (Core σ) σ J) (hB : By bs) (hs : σ.seq + 1 ≤ 9223372036854775807) :
    ((hndS park bs σ J).1.down = false ∧ RgQ (Core (hndS park bs σ J).1) (hndS park bs σ J).1 (hndS park bs σ J).2.1 ∧ (hndS park bs σ J).1.loose = 0 ∧ Rel σ.rs (hndS park bs σ J).1.rs ∧
      ((hndS park bs σ J).2.2.code = 0 → ((dec bs).1.op = 1 ∨ (dec bs).1.op = 6) → (nrm (hndS park bs σ J).2.2).id = (((hndS park bs σ J).1.rs.length : Nat) : Int) ∧ (hndS park bs σ J).1.rs.length = σ.rs.length + 1) ∧
      ((dec bs).1.op = 5 → has σ.rs (dec bs).1.id → (rget (hndS park bs σ J).1.rs (dec bs).1.id).legs = if (hndS park bs σ J).2.2.code = 0 then (dec bs).1.legs else (rget σ.rs (dec bs).1.id).legs)) ∨
    ((hndS park bs σ J).1.down = true ∧ RgD (fun s => Rel σ.rs s.rs) (hndS park bs σ J).2.1) := by
  have hd := h.dn
  have hform := fun h => hnd_form (σ := σ) (J := J) (bs := bs) hd h
  have hdone := fun hc h0 hq => hnd_done (C := park) (σ := σ) (J := J) (bs := bs) hc h0 hq
  rcases h.hnd (coreC_core σ) hB hs with ⟨d, r, l, c⟩ | ⟨d, p, o, r⟩
  · refine .inl ⟨d, r, l, ?_, ?_, ?_⟩
    · rcases c with ⟨c0, c1, c2⟩ | c
      · have dn := hdone c0 c1 (by
          unfold isC at c2; unfold isQ
          simp only [Bool.and_eq_true, decide_eq_true_eq] at c2
          simp only [Bool.and_eq_false_iff, decide_eq_false_iff_not]
          omega)
        rw [dn.rs]
        exact apS_rel _ _
      · rw [c.rs]; exact Rel.refl _
    · intro c0 ho
      have h0 : (dec bs).2 = 0 := by
        by_cases q : (dec bs).2 = 0
        · exact q
        · exact absurd c0 (hform q)
      have dn := hdone c0 h0 (isQ_of (by omega))
      obtain ⟨a1, a2, a3⟩ := apS_new (σ := σ) ho dn.c
      have hid : (nrm (hndS park bs σ J).2.2).id = (apS park (dec bs).1 σ).2.id := by
        rw [dn.p]
        unfold nrm
        rw [if_pos dn.c]
        unfold nrmB
        rw [a3]
        rcases ho with ho | ho
        · rw [ho, if_pos (.inl rfl)]
        · rw [ho, if_neg (by decide), if_pos rfl]
      rw [hid, dn.rs, a1, a2]
      exact ⟨rfl, rfl⟩
    · intro h5 hh
      by_cases c0 : (hndS park bs σ J).2.2.code = 0
      · rw [if_pos c0]
        have h0 : (dec bs).2 = 0 := by
          by_cases q : (dec bs).2 = 0
          · exact q
          · exact absurd c0 (hform q)
        have dn := hdone c0 h0 (isQ_of (by omega))
        rw [dn.rs]
        exact (apS_reb h5 dn.c).2
      · rw [if_neg c0]
        rcases c with ⟨q, _⟩ | c
        · exact absurd q c0
        · rw [c.rs]
  · refine .inr ⟨d, r.mono fun s q => ?_⟩
    rcases q with q | ⟨_, _, _, _, q⟩
    · show Rel σ.rs s.rs
      rw [q.rs]; exact Rel.refl _
    · show Rel σ.rs s.rs
      rw [q.2.1]; exact apS_rel _ _
theorem Gd.rel {σ : Sg} (h : RgQ (Core σ) σ J) (hl : σ.loose = 0) (hr : Rel B σ.rs) : RgD (fun s => Rel B s.rs) J := (h.d hl).mono fun s q => by show Rel B s.rs; rw [q.rs]; exact hr
end
end Go.Proofs.Qxb6500896aGreatDoor
