import Derived.Test.Qxb6500893aDoorA22
namespace Go.Proofs.Qxb6500893aDoor
open Go.Sh Go.RowKit
set_option linter.unusedVariables false
set_option linter.unusedSimpArgs false

/-! ### counting -/
def cntP (p : Nat → Bool) (N : Nat) : Nat := (List.range N).countP p
theorem cntP_succ (p : Nat → Bool) (N : Nat) : cntP p (N + 1) = cntP p N + (if p N then 1 else 0) := by
  unfold cntP; rw [List.range_succ, List.countP_append]; simp [List.countP_cons]
theorem cntP_le (p : Nat → Bool) : ∀ N, cntP p N ≤ N
  | 0 => Nat.le_refl _
  | N + 1 => by have := cntP_le p N; rw [cntP_succ]; split <;> omega
theorem cntP_congr {p q : Nat → Bool} : ∀ {N : Nat}, (∀ j, j < N → p j = q j) → cntP p N = cntP q N
  | 0, _ => rfl
  | N + 1, h => by rw [cntP_succ, cntP_succ, cntP_congr (fun j hj => h j (by omega)), h N (by omega)]
theorem cntP_add (p : Nat → Bool) (a : Nat) : ∀ b, cntP p (a + b) = cntP p a + cntP (fun j => p (a + j)) b
  | 0 => rfl
  | b + 1 => by rw [← Nat.add_assoc, cntP_succ, cntP_succ, cntP_add p a b]; omega
theorem cntP_one {p q : Nat → Bool} {a : Nat} (hp : p a = true) (hq : q a = false) : ∀ {n : Nat}, a < n → (∀ j, j < n → j ≠ a → p j = q j) → cntP p n = cntP q n + 1
  | 0, ha, _ => absurd ha (Nat.not_lt_zero _)
  | n + 1, ha, h => by
    rw [cntP_succ, cntP_succ]
    by_cases e : a = n
    · subst e
      rw [cntP_congr (q := q) (fun j hj => h j (by omega) (by omega)), hp, hq]; simp
    · rw [cntP_one hp hq (n := n) (by omega) (fun j hj => h j (by omega)), h n (by omega) (fun q => e q.symm)]; omega
theorem cntP_not (p : Nat → Bool) : ∀ n, cntP p n + cntP (fun j => !p j) n = n
  | 0 => rfl
  | n + 1 => by
    have := cntP_not p n
    rw [cntP_succ, cntP_succ]
    cases p n <;> simp <;> omega
theorem cntP_none : ∀ n, cntP (fun _ => false) n = 0
  | 0 => rfl
  | n + 1 => by rw [cntP_succ, cntP_none n]; rfl
theorem cntP_mem : ∀ {F : List Nat} {n : Nat}, F.Nodup → (∀ j ∈ F, j < n) → cntP (fun j => decide (j ∈ F)) n = F.length
  | [], n, _, _ => by
    rw [cntP_congr (q := fun _ => false) (fun j _ => by simp), cntP_none]; rfl
  | a :: F, n, hn, hl => by
    rw [List.nodup_cons] at hn
    rw [cntP_one (q := fun j => decide (j ∈ F)) (a := a) (by simp) (by simpa using hn.1) (hl a (List.mem_cons_self ..)) (fun j _ hne => by simp [hne]), cntP_mem hn.2 (fun j hj => hl j (List.mem_cons_of_mem _ hj))]
    rfl
theorem cb_cnt : ∀ n x, cb n x = cntP (fun i => x.testBit i) n
  | 0, x => rfl
  | n + 1, x => by
    show x % 2 + cb n (x / 2) = _
    rw [cb_cnt n (x / 2), Nat.add_comm n 1, cntP_add]
    have e : cntP (fun j => x.testBit (1 + j)) n = cntP (fun i => (x / 2).testBit i) n := cntP_congr (fun j _ => by show x.testBit (1 + j) = _; rw [Nat.add_comm 1 j, Nat.testBit_succ])
    rw [e]
    have : cntP (fun i => x.testBit i) 1 = x % 2 := by
      show cntP (fun i => x.testBit i) (0 + 1) = _
      rw [cntP_succ]
      show 0 + (if x.testBit 0 then 1 else 0) = _
      rw [Nat.testBit_zero]
      by_cases h : x % 2 = 1
      · simp [h]
      · simp [h]; omega
    rw [this]
theorem words_cnt (f : Nat → Nat) : ∀ m, ((List.range m).map (fun t => cb 64 (f t))).sum = cntP (fun j => (f (j / 64)).testBit (j % 64)) (64 * m)
  | 0 => rfl
  | m + 1 => by
    rw [List.range_succ, List.map_append, List.sum_append, words_cnt f m, Nat.mul_add, cntP_add]
    have e : cntP (fun j => (f ((64 * m + j) / 64)).testBit ((64 * m + j) % 64)) (64 * 1) = cb 64 (f m) := by
      rw [cb_cnt]
      exact cntP_congr (fun j hj => by
        have e1 : (64 * m + j) / 64 = m := by omega
        have e2 : (64 * m + j) % 64 = j := by omega
        show (f ((64 * m + j) / 64)).testBit ((64 * m + j) % 64) = _
        rw [e1, e2])
    rw [e]
    simp
section
variable {ws : Nat → Nat} {sh : Shp} {F : List Nat}
/-- the bitmap counts the blocks in use -/
theorem PoolOk.marked (hok : sh.Ok) (h : PoolOk ws sh F) : ((List.range (mapW sh.n)).map (fun t => cb 64 (ws (sh.bm + t)))).sum = ws (sh.ctl + 2) := by
  rw [words_cnt (fun t => ws (sh.bm + t))]
  have hle := n_le sh.n
  have e1 : cntP (fun j => (ws (sh.bm + j / 64)).testBit (j % 64)) (64 * mapW sh.n) = cntP (fun j => decide (j < sh.n ∧ j ∉ F)) (64 * mapW sh.n) := cntP_congr (fun j hj => by
    have := h.bits j hj
    unfold Shp.mc at this
    rw [Bool.eq_iff_iff, this, decide_eq_true_eq])
  have e2 : cntP (fun j => decide (j < sh.n ∧ j ∉ F)) (64 * mapW sh.n) = cntP (fun j => decide (j < sh.n ∧ j ∉ F)) sh.n := by
    obtain ⟨d, hd⟩ : ∃ d, 64 * mapW sh.n = sh.n + d := ⟨_, (Nat.add_sub_cancel' hle).symm⟩
    rw [hd, cntP_add]
    have : cntP (fun j => decide (sh.n + j < sh.n ∧ sh.n + j ∉ F)) d = 0 := by
      rw [cntP_congr (q := fun _ => false) (fun j _ => decide_eq_false (fun q => by omega)), cntP_none]
    rw [this]; rfl
  have e3 : cntP (fun j => decide (j < sh.n ∧ j ∉ F)) sh.n = cntP (fun j => !decide (j ∈ F)) sh.n := cntP_congr (fun j hj => by simp [hj])
  have e4 := cntP_not (fun j => decide (j ∈ F)) sh.n
  rw [cntP_mem h.nd h.lt] at e4
  have := h.used
  rw [e1, e2, e3]
  omega
/-- no bit behind the last block -/
theorem PoolOk.tail (hok : sh.Ok) (h : PoolOk ws sh F) (hr : ws (sh.bm + (mapW sh.n - 1)) < 18446744073709551616) (ht : sh.n % 64 ≠ 0) : ws (sh.bm + (mapW sh.n - 1)) / 2 ^ (sh.n % 64) = 0 := by
  apply Nat.div_eq_of_lt
  apply Nat.lt_pow_two_of_testBit
  intro i hi
  by_cases h64 : i < 64
  · have hm : mapW sh.n = sh.n / 64 + 1 := by unfold mapW; omega
    have hb := h.bits (64 * (sh.n / 64) + i) (by omega)
    have e1 : sh.mc (64 * (sh.n / 64) + i) = sh.bm + (mapW sh.n - 1) := by unfold Shp.mc; omega
    have e2 : (64 * (sh.n / 64) + i) % 64 = i := by omega
    rw [e1, e2] at hb
    cases hx : (ws (sh.bm + (mapW sh.n - 1))).testBit i with
    | false => rfl
    | true => have := hb.1 hx; omega
  · exact Nat.testBit_lt_two_pow (Nat.lt_of_lt_of_le hr (Nat.pow_le_pow_right (n := 2) (by decide) (show 64 ≤ i by omega)))
end
end Go.Proofs.Qxb6500893aDoor
