import Derived.Test.Qxb6500897aP14
namespace Go.Proofs.Qxb6500897a
open Go.Sh Go.RowKit
set_option linter.unusedVariables false
set_option linter.unusedSimpArgs false

/-! ### the rings, purely -/
theorem mod_inj {lo L p q : Nat} (hp : lo ≤ p) (hp2 : p < lo + L) (hq : lo ≤ q) (hq2 : q < lo + L) (h : p % L = q % L) : p = q := by
  rcases Nat.le_total p q with hle | hle
  · have := Nat.sub_mod_eq_zero_of_mod_eq h.symm
    rw [Nat.mod_eq_of_lt (by omega)] at this
    omega
  · have := Nat.sub_mod_eq_zero_of_mod_eq h
    rw [Nat.mod_eq_of_lt (by omega)] at this
    omega

theorem addN_get {occ : List Int} {lo x y : Nat} {n : Int} (hL : 0 < occ.length) (h1 : lo ≤ x) (hy1 : lo ≤ y) (hy2 : y < lo + occ.length) :
    ∀ k, x + k ≤ lo + occ.length → (addN occ x n k).getD (y % occ.length) 0 = occ.getD (y % occ.length) 0 + (if x ≤ y ∧ y < x + k then n else 0) := by
  intro k
  induction k with
  | zero => intro _; rw [addN, if_neg (by omega)]; omega
  | succ k ih =>
    intro hk
    have ih := ih (by omega)
    rw [addN, getD_set, addN_length]
    by_cases he : (x + k) % occ.length = y % occ.length
    · have e := mod_inj (by omega) (by omega) hy1 hy2 he
      rw [if_pos ⟨he, Nat.mod_lt _ hL⟩, he, ih, if_neg (by omega), if_pos (by omega)]
      omega
    · rw [if_neg (fun h => he h.1), ih]
      have : x + k ≠ y := fun e => he (by rw [e])
      by_cases hxy : x ≤ y ∧ y < x + k
      · rw [if_pos hxy, if_pos (by omega)]
      · rw [if_neg hxy, if_neg (by omega)]

theorem clrO_get {occ : List Int} {x y : Nat} (hL : 0 < occ.length) (hy1 : x ≤ y) (hy2 : y < x + occ.length) :
    ∀ k, k ≤ occ.length → (clrO occ x k).getD (y % occ.length) 0 = if y < x + k then 0 else occ.getD (y % occ.length) 0 := by
  intro k
  induction k with
  | zero => intro _; rw [clrO, if_neg (by omega)]
  | succ k ih =>
    intro hk
    have ih := ih (by omega)
    rw [clrO, getD_set, clrO_length]
    by_cases he : (x + k) % occ.length = y % occ.length
    · have e := mod_inj (lo := x) (by omega) (by omega) hy1 hy2 he
      rw [if_pos ⟨he, Nat.mod_lt _ hL⟩, if_pos (by omega)]
    · rw [if_neg (fun h => he h.1), ih]
      have : x + k ≠ y := fun e => he (by rw [e])
      by_cases hxy : y < x + k
      · rw [if_pos hxy, if_pos (by omega)]
      · rw [if_neg hxy, if_neg (by omega)]

theorem clr3_get {adm : List Int} {m i c : Nat} (hc : c < 3) (hi : i * 3 + 3 ≤ adm.length) : ∀ k, k ≤ 3 → (clr3 adm m k).getD (i * 3 + c) 0 = if m = i ∧ c < k then 0 else adm.getD (i * 3 + c) 0 := by
  intro k
  induction k with
  | zero => intro _; rw [clr3, if_neg (by omega)]
  | succ k ih =>
    intro hk
    have ih := ih (by omega)
    rw [clr3, getD_set, clr3_length, ih]
    by_cases he : m * 3 + k = i * 3 + c
    · rw [if_pos ⟨he, by omega⟩, if_pos (by omega)]
    · rw [if_neg (fun h => he h.1)]
      by_cases hq : m = i ∧ c < k
      · rw [if_pos hq, if_pos (by omega)]
      · rw [if_neg hq, if_neg (by omega)]

theorem clrA_get {adm : List Int} {L x y c : Nat} (hL : 0 < L) (ha : adm.length = 3 * L) (hc : c < 3) (hy1 : x ≤ y) (hy2 : y < x + L) :
    ∀ k, k ≤ L → (clrA adm L x k).getD (y % L * 3 + c) 0 = if y < x + k then 0 else adm.getD (y % L * 3 + c) 0 := by
  intro k
  have hm := Nat.mod_lt y hL
  induction k with
  | zero => intro _; rw [clrA, if_neg (by omega)]
  | succ k ih =>
    intro hk
    have ih := ih (by omega)
    rw [clrA, clr3_get hc (by rw [clrA_length]; omega) 3 (by omega), ih]
    by_cases he : (x + k) % L = y % L
    · have e := mod_inj (lo := x) (by omega) (by omega) hy1 hy2 he
      rw [if_pos ⟨he, hc⟩, if_pos (by omega)]
    · rw [if_neg (fun h => he h.1)]
      have : x + k ≠ y := fun e => he (by rw [e])
      by_cases hxy : y < x + k
      · rw [if_pos hxy, if_pos (by omega)]
      · rw [if_neg hxy, if_neg (by omega)]

/-! ### the ledger -/
structure Ent where
  attr : Nat
  slot : Int
  cls : Nat
  n : Int

def insT (a : Nat) (dw v : Int) (e : Ent) : Int := if e.attr = a ∧ e.slot ≤ v ∧ v < e.slot + dw then e.n else 0
def entT (a : Nat) (v : Int) (c : Nat) (e : Ent) : Int := if e.attr = a ∧ e.slot = v ∧ e.cls = c then e.n else 0
def ins (L : List Ent) (a : Nat) (dw v : Int) : Int := (L.map (insT a dw v)).sum
def ent (L : List Ent) (a : Nat) (v : Int) (c : Nat) : Int := (L.map (entT a v c)).sum
theorem ins_append (L : List Ent) (e : Ent) (a : Nat) (dw v : Int) : ins (L ++ [e]) a dw v = ins L a dw v + insT a dw v e := by simp [ins]
theorem ent_append (L : List Ent) (e : Ent) (a : Nat) (v : Int) (c : Nat) : ent (L ++ [e]) a v c = ent L a v c + entT a v c e := by simp [ent]
end Go.Proofs.Qxb6500897a
