import Derived.Test.Qxb6500897aP15
namespace Go.Proofs.Qxb6500897a
open Go.Sh Go.RowKit
set_option linter.unusedVariables false
set_option linter.unusedSimpArgs false

/-- the sum of a count over k slots down from v and the three classes -/
def sE (f : Int → Nat → Int) (v : Int) : Nat → Int
  | 0 => 0
  | k + 1 => sE f v k + (f (v - k) 0 + f (v - k) 1 + f (v - k) 2)

theorem sE_zero (v : Int) (k : Nat) : sE (fun _ _ => 0) v k = 0 := by
  induction k with
  | zero => rfl
  | succ k ih => rw [sE, ih]; rfl
theorem sE_add (f g : Int → Nat → Int) (v : Int) (k : Nat) : sE (fun u c => f u c + g u c) v k = sE f v k + sE g v k := by
  induction k with
  | zero => rfl
  | succ k ih => rw [sE, sE, sE, ih]; omega

theorem sE_T {a : Nat} {v : Int} {e : Ent} (hc : e.cls < 3) (k : Nat) : sE (fun u c => entT a u c e) v k = if e.attr = a ∧ e.slot ≤ v ∧ v < e.slot + k then e.n else 0 := by
  induction k with
  | zero => rw [sE, if_neg (by omega)]
  | succ k ih =>
    rw [sE, ih]
    have h3 : entT a (v - k) 0 e + entT a (v - k) 1 e + entT a (v - k) 2 e = if e.attr = a ∧ e.slot = v - k then e.n else 0 := by
      unfold entT
      have : e.cls = 0 ∨ e.cls = 1 ∨ e.cls = 2 := by omega
      by_cases hs : e.attr = a ∧ e.slot = v - k
      · rw [if_pos hs]
        rcases this with h | h | h <;> simp [hs, h]
      · rw [if_neg hs]
        have q : ∀ c, ¬ (e.attr = a ∧ e.slot = v - k ∧ e.cls = c) := fun c h => hs ⟨h.1, h.2.1⟩
        rw [if_neg (q 0), if_neg (q 1), if_neg (q 2)]; rfl
    rw [h3]
    by_cases ha : e.attr = a
    · by_cases h1 : e.slot ≤ v ∧ v < e.slot + k
      · rw [if_pos ⟨ha, h1⟩, if_neg (by omega), if_pos (by omega)]; omega
      · rw [if_neg (by omega)]
        by_cases h2 : e.slot = v - k
        · rw [if_pos ⟨ha, h2⟩, if_pos (by omega)]; omega
        · rw [if_neg (by omega), if_neg (by omega)]; rfl
    · rw [if_neg (by omega), if_neg (by omega), if_neg (by omega)]; rfl

/-- the visitors inside are those who entered in the last slots -/
theorem ins_sum {L : List Ent} (hL : ∀ e ∈ L, e.cls < 3) (a : Nat) (dw v : Int) (hd : 0 ≤ dw) : ins L a dw v = sE (ent L a) v dw.toNat := by
  induction L with
  | nil => exact (sE_zero v _).symm
  | cons e L ih =>
    have ih := ih (fun e he => hL e (List.mem_cons_of_mem _ he))
    have e1 : ins (e :: L) a dw v = insT a dw v e + ins L a dw v := by simp [ins]
    have e2 : ent (e :: L) a = fun u c => entT a u c e + ent L a u c := by funext u c; simp [ent]
    rw [e1, e2, sE_add, sE_T (hL e (List.mem_cons_self ..)), ← ih]
    unfold insT
    have : ((dw.toNat : Nat) : Int) = dw := by omega
    rw [this]

theorem sE_ge {f : Int → Nat → Int} (hf : ∀ u c, c < 3 → 0 ≤ f u c) (v : Int) : ∀ k, 0 ≤ sE f v k ∧ ∀ j c : Nat, j < k → c < 3 → f (v - j) c ≤ sE f v k := by
  intro k
  induction k with
  | zero => exact ⟨Int.le_refl 0, fun j c h => by omega⟩
  | succ k ih =>
    have h0 := hf (v - k) 0 (by omega)
    have h1 := hf (v - k) 1 (by omega)
    have h2 := hf (v - k) 2 (by omega)
    rw [sE]
    refine ⟨by omega, fun j c hj hc => ?_⟩
    by_cases hjk : j = k
    · subst hjk
      have : c = 0 ∨ c = 1 ∨ c = 2 := by omega
      rcases this with rfl | rfl | rfl <;> omega
    · have := ih.2 j c (by omega) hc
      omega
end Go.Proofs.Qxb6500897a
