import Derived.Test.Qxb6500897aP17
namespace Go.Proofs.Qxb6500897a
open Go.Sh Go.RowKit
set_option linter.unusedVariables false
set_option linter.unusedSimpArgs false

theorem Ring.other {now : Int} {L : List Ent} {a : Nat} {t : Tab} {e : Ent} (h : Ring now L a t) (hne : e.attr ≠ a) : Ring now (L ++ [e]) a t := by
  refine ⟨h.att, h.len, h.adl, fun v v0 v1 => ?_, fun v c v0 v1 hc => ?_⟩
  · rw [ins_append, insT, if_neg (fun q => hne q.1), h.occ v v0 v1]; omega
  · rw [ent_append, entT, if_neg (fun q => hne q.1), h.adm v c v0 v1 hc]; omega

theorem Ring.add {now : Int} {L : List Ent} {a : Nat} {t : Tab} {s n : Int} {c : Nat} (h : Ring now L a t) (n0 : 0 ≤ now) (s0 : now - (dw a - 1) ≤ s) (s1 : s ≤ now + 5) (hc : c < 3) :
    Ring now (L ++ [⟨a, s, c, n⟩]) a (addT t (ps t s) c n) := by
  have hb := pa_bd a
  have hdw : (pa a).dwell = dw a := rfl
  have hl := h.len
  have hL : 0 < t.occ.length := by omega
  have eps : ∀ v, ps t v = (v + (dw a - 1)).toNat := by intro v; unfold ps; rw [h.att]
  have el : (addT t (ps t s) c n).occ.length = t.occ.length := addN_length _ _ _ _
  have eps2 : ∀ v, ps (addT t (ps t s) c n) v = (v + (dw a - 1)).toNat := by
    intro v; unfold ps
    have : (addT t (ps t s) c n).att = t.att := rfl
    rw [this, h.att]
  refine ⟨h.att, by rw [el]; exact hl, ?_, fun v v0 v1 => ?_, fun v c' v0 v1 hc' => ?_⟩
  · rw [el]
    have : (addT t (ps t s) c n).adm.length = t.adm.length := by simp [addT, Tab.upd]
    rw [this]; exact h.adl
  · have ho := h.occ v v0 v1
    unfold occOf at ho ⊢
    rw [el, eps2]
    rw [eps] at ho
    show (addN t.occ (ps t s) n t.att.dwell.toNat).getD _ 0 = _
    rw [eps, h.att, addN_get (lo := now.toNat) hL (by omega) (by omega) (by omega) (pa a).dwell.toNat (by omega), ho, ins_append]
    congr 1
    unfold insT
    by_cases hq : s ≤ v ∧ v < s + dw a
    · rw [if_pos (by omega), if_pos ⟨rfl, hq⟩]
    · rw [if_neg (by omega), if_neg (fun q => hq q.2)]
  · have ho := h.adm v c' v0 v1 hc'
    unfold admOf at ho ⊢
    rw [el, eps2]
    rw [eps] at ho
    show (t.adm.set (ps t s % t.occ.length * 3 + c) (t.adm.getD (ps t s % t.occ.length * 3 + c) 0 + n)).getD _ 0 = _
    have hm1 := Nat.mod_lt (ps t s) hL
    have hm2 := Nat.mod_lt (v + (dw a - 1)).toNat hL
    have ha := h.adl
    rw [getD_set, ent_append, ← ho]
    unfold entT
    by_cases hq : s = v ∧ c = c'
    · obtain ⟨rfl, rfl⟩ := hq
      rw [eps, if_pos ⟨rfl, by rw [eps] at hm1; omega⟩, if_pos ⟨rfl, rfl, rfl⟩]
    · rw [if_neg, if_neg (fun q => hq ⟨q.2.1, q.2.2⟩)]
      · omega
      · rintro ⟨he, _⟩
        apply hq
        have e1 : ps t s % t.occ.length = (v + (dw a - 1)).toNat % t.occ.length := by omega
        rw [eps] at e1
        have := mod_inj (lo := now.toNat) (by omega) (by omega) (by omega) (by omega) e1
        omega

theorem sum_zero {l : List Int} (h : ∀ x ∈ l, x = 0) : l.sum = 0 := by
  induction l with
  | nil => rfl
  | cons x l ih => rw [List.sum_cons, h x (List.mem_cons_self ..), ih fun y hy => h y (List.mem_cons_of_mem _ hy)]; rfl
theorem ins_late {now : Int} {L : List Ent} (hi : Inv now L) (a : Nat) {v : Int} (hv : now + 5 + dw a ≤ v) : ins L a (dw a) v = 0 := by
  unfold ins
  apply sum_zero
  intro x hx
  rw [List.mem_map] at hx
  obtain ⟨e, he, rfl⟩ := hx
  have := (hi.sl e he).1
  unfold insT
  rw [if_neg (by omega)]
theorem ent_late {now : Int} {L : List Ent} (hi : Inv now L) (a : Nat) {v : Int} (c : Nat) (hv : now + 6 ≤ v) : ent L a v c = 0 := by
  unfold ent
  apply sum_zero
  intro x hx
  rw [List.mem_map] at hx
  obtain ⟨e, he, rfl⟩ := hx
  have := (hi.sl e he).1
  unfold entT
  rw [if_neg (by omega)]
end Go.Proofs.Qxb6500897a
