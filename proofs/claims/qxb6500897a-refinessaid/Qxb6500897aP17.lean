import Derived.Test.Qxb6500897aP16
namespace Go.Proofs.Qxb6500897a
open Go.Sh Go.RowKit
set_option linter.unusedVariables false
set_option linter.unusedSimpArgs false

def pa (a : Nat) : Att := parkA.getD a ⟨1, 1, 0, 0, 0⟩
abbrev dw (a : Nat) : Int := (pa a).dwell

theorem pa_bd (a : Nat) : 1 ≤ (pa a).dwell ∧ (pa a).dwell ≤ 9 ∧ 1 ≤ (pa a).cap ∧ (pa a).cap ≤ 12 ∧ ∀ c, 0 ≤ (pa a).q c ∧ (pa a).q c ≤ 12 := by
  have q3 : ∀ t : Att, (0 ≤ t.q0 ∧ t.q0 ≤ 12) → (0 ≤ t.q1 ∧ t.q1 ≤ 12) → (0 ≤ t.q2 ∧ t.q2 ≤ 12) → ∀ c, 0 ≤ t.q c ∧ t.q c ≤ 12 := by
    intro t h0 h1 h2 c
    match c with
    | 0 => exact h0
    | 1 => exact h1
    | c + 2 => exact h2
  match a with
  | 0 => exact ⟨by decide, by decide, by decide, by decide, q3 _ (by decide) (by decide) (by decide)⟩
  | 1 => exact ⟨by decide, by decide, by decide, by decide, q3 _ (by decide) (by decide) (by decide)⟩
  | 2 => exact ⟨by decide, by decide, by decide, by decide, q3 _ (by decide) (by decide) (by decide)⟩
  | 3 => exact ⟨by decide, by decide, by decide, by decide, q3 _ (by decide) (by decide) (by decide)⟩
  | a + 4 =>
    have e : pa (a + 4) = ⟨1, 1, 0, 0, 0⟩ := by simp [pa, parkA, List.getD]
    rw [e]
    exact ⟨by decide, by decide, by decide, by decide, q3 _ (by decide) (by decide) (by decide)⟩

/-- a ring shows the sums of the ledger -/
structure Ring (now : Int) (L : List Ent) (a : Nat) (t : Tab) : Prop where
  att : t.att = pa a
  len : (t.occ.length : Int) = 6 + 2 * (dw a - 1)
  adl : t.adm.length = 3 * t.occ.length
  occ : ∀ v, now - (dw a - 1) ≤ v → v ≤ now + 5 + (dw a - 1) → occOf t v = ins L a (dw a) v
  adm : ∀ v c, now - (dw a - 1) ≤ v → v ≤ now + 5 + (dw a - 1) → c < 3 → admOf t v c = ent L a v c

structure Inv (now : Int) (L : List Ent) : Prop where
  n0 : 0 ≤ now
  n1 : now ≤ 90
  sl : ∀ e ∈ L, e.slot ≤ now + 5 ∧ e.attr < 4 ∧ e.cls < 3
  en : ∀ a v c, c < 3 → 0 ≤ ent L a v c ∧ ent L a v c ≤ (pa a).q c
  ii : ∀ a v, 0 ≤ ins L a (dw a) v ∧ ins L a (dw a) v ≤ (pa a).cap

structure Good (now : Int) (ts : List Tab) (L : List Ent) : Prop where
  inv : Inv now L
  len : ts.length = 4
  ring : ∀ a (h : a < ts.length), Ring now L a ts[a]

theorem Ring.tok {now : Int} {L : List Ent} {a : Nat} {t : Tab} (h : Ring now L a t) : TOk t := by
  have hb := pa_bd a
  have hdw : (pa a).dwell = dw a := rfl
  have hl := h.len
  have ha := h.adl
  refine ⟨?_, ?_, ?_, ?_, by omega, by omega, ha⟩ <;> rw [h.att] <;> omega

theorem Ring.place {now : Int} {L : List Ent} {a : Nat} {t : Tab} (h : Ring now L a t) (n0 : 0 ≤ now) {i : Nat} (hi : i < t.occ.length) :
    ∃ v, now - (dw a - 1) ≤ v ∧ v ≤ now + 5 + (dw a - 1) ∧ ps t v % t.occ.length = i := by
  have hb := pa_bd a
  have hdw : (pa a).dwell = dw a := rfl
  have hl := h.len
  -- the number in now .. now + length - 1 with that remainder
  have hL : 0 < t.occ.length := by omega
  have hm := Nat.mod_lt now.toNat hL
  have hdiv := Nat.div_add_mod now.toNat t.occ.length
  refine ⟨(if now.toNat % t.occ.length ≤ i then now.toNat - now.toNat % t.occ.length + i else now.toNat - now.toNat % t.occ.length + i + t.occ.length : Nat) - (dw a - 1), ?_, ?_, ?_⟩
  · split <;> omega
  · split <;> omega
  · unfold ps
    rw [h.att]
    have e : ∀ y : Nat, ((y : Int) - (dw a - 1) + ((pa a).dwell - 1)).toNat = y := by intro y; omega
    rw [e]
    have e2 : now.toNat - now.toNat % t.occ.length = t.occ.length * (now.toNat / t.occ.length) := by omega
    rw [e2]
    split
    · rw [Nat.mul_add_mod, Nat.mod_eq_of_lt hi]
    · rw [Nat.add_mod_right, Nat.mul_add_mod, Nat.mod_eq_of_lt hi]

theorem Ring.tsm {now : Int} {L : List Ent} {a : Nat} {t : Tab} (h : Ring now L a t) (hi : Inv now L) : TSm t := by
  have hb := pa_bd a
  refine ⟨fun i => ?_, fun i => ?_, fun c => ?_⟩
  · by_cases hl : i < t.occ.length
    · obtain ⟨v, v0, v1, e⟩ := h.place hi.n0 hl
      have := h.occ v v0 v1
      unfold occOf at this
      rw [e] at this
      rw [this]
      have := hi.ii a v
      omega
    · have : t.occ.getD i 0 = 0 := by simp [List.getD, List.getElem?_eq_none (Nat.le_of_not_lt hl)]
      omega
  · by_cases hl : i < t.adm.length
    · have ha := h.adl
      have hd := Nat.div_add_mod i 3
      have hm := Nat.mod_lt i (show 0 < 3 by omega)
      obtain ⟨v, v0, v1, e⟩ := h.place hi.n0 (i := i / 3) (by omega)
      have := h.adm v (i % 3) v0 v1 hm
      unfold admOf at this
      rw [e] at this
      have e3 : i / 3 * 3 + i % 3 = i := by omega
      rw [e3] at this
      rw [this]
      have := hi.en a v (i % 3) hm
      have := hb.2.2.2.2 (i % 3)
      omega
    · have : t.adm.getD i 0 = 0 := by simp [List.getD, List.getElem?_eq_none (Nat.le_of_not_lt hl)]
      omega
  · rw [h.att]
    have := hb.2.2.2.2 c
    omega

theorem Good.sys {w : World} {d tb : Nat} {now : Int} {ts : List Tab} {L : List Ent} (h : Good now ts L) (ht : Tabs w d tb 6 90 now ts) : Sys w d tb now ts := by
  refine ⟨ht, ?_, ?_, h.inv.n0, h.inv.n1⟩
  · intro t htm
    obtain ⟨a, ha, rfl⟩ := List.getElem_of_mem htm
    exact (h.ring a ha).tok
  · intro t htm
    obtain ⟨a, ha, rfl⟩ := List.getElem_of_mem htm
    exact (h.ring a ha).tsm h.inv
end Go.Proofs.Qxb6500897a
