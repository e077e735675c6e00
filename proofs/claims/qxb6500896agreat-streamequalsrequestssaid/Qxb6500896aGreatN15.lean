import Derived.Test.Qxb6500896aGreatN9
namespace Go.Proofs.Qxb6500896aGreat
open Go.Sh Go.RowKit
set_option linter.unusedVariables false
set_option linter.unusedSimpArgs false

/-! ### recovery from any journal -/
section
variable {C : Cfg} {σ σ' : Sg} {J : Jr}
theorem rplL_gd (cv : CV C) : ∀ (l : List (List Int)) {σ σ' : Sg}, SGd C σ → rplL C l σ = some σ' → SGd C σ'
  | [], σ, σ', g, h => by
    have : some σ = some σ' := h
    rw [← Option.some.inj this]; exact g
  | x :: l, σ, σ', g, h => by
    rw [rplL] at h
    cases hx : rplS C x σ with
    | none => rw [hx] at h; cases h
    | some σ1 =>
      rw [hx] at h
      exact rplL_gd cv l (rplS_gd cv g hx) h
theorem opn0_gd (cv : CV C) (hby : JBy J) (h : opn0 C J = some σ) : SGd C σ := by
  unfold opn0 at h
  split at h
  · split at h
    · rename_i q
      rw [← Option.some.inj h]
      exact Gd.of cv q.2 (decImg_N hby.n q.1).1
    · cases h
  · rw [← Option.some.inj h]
    exact Gd.zero cv
theorem opn1_gd (cv : CV C) (hby : JBy J) (h : opn1 C J = some σ) : SGd C σ := by
  unfold opn1 at h
  cases h0 : opn0 C J with
  | none => rw [h0] at h; cases h
  | some σ0 =>
    rw [h0] at h
    exact rplL_gd cv _ (opn0_gd cv hby h0) h
theorem aft0 (C : Cfg) (σ : Sg) (ho : J.off = false) (hl : J.left = 0) : (aftS C σ J).2.2 = 0 := by
  unfold aftS
  split
  · rfl
  · show (if (snapS C σ J).2.2 = 19 then (19 : Int) else 0) = 0
    have : (snapS C σ J).2.2 ≠ 19 := by
      unfold snapS
      rw [snapJ0 ho hl]
      split
      · rw [if_neg (show ¬ (18 : Int) = 0 by decide), if_pos rfl]; exact (show ¬ (17 : Int) = 19 by decide)
      · rw [if_pos rfl]; exact (show ¬ (0 : Int) = 19 by decide)
    rw [if_neg this]
/-- recovery answers: a journal that is corrupt, or a good engine -/
theorem opn_rec (cv : CV C) (ho : J.off = false) (hl : J.left = 0) (hby : JBy J) : ((opnS C J).2.1 = none ∧ (opnS C J).2.2 = 20) ∨ ∃ σ, (opnS C J).2.1 = some σ ∧ SGd C σ := by
  unfold opnS
  rw [if_neg (by rw [ho]; decide), if_neg (by omega)]
  cases h1 : opn1 C J with
  | none => exact .inl ⟨rfl, rfl⟩
  | some σ1 =>
    have g := opn1_gd cv hby h1
    simp only [due0 hl]
    rw [if_pos (aft0 C _ ho hl)]
    refine .inr ⟨_, rfl, ?_⟩
    exact (aftS_same C { σ1 with tail := (J.log.length : Nat) } J).core.gd g
end
end Go.Proofs.Qxb6500896aGreat
