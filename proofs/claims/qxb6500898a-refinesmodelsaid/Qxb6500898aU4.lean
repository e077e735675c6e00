import Derived.Test.Qxb6500898aU3
namespace Go.Proofs.Qxb6500898a
open Go.Sh Go.RowKit
set_option linter.unusedVariables false
set_option linter.unusedSimpArgs false

/-! ### the Unicode definition and the reader agree -/
def payF (c : Int) (l : List Int) : Int := l.foldl (fun c x => c * 64 + x % 64) c
def pay (ys : List Int) : Int :=
  payF (if ys.length = 1 then g ys 0 else if ys.length = 2 then g ys 0 % 32 else if ys.length = 3 then g ys 0 % 16 else if ys.length = 4 then g ys 0 % 8 else 0) (ys.drop 1)

def okN (xs : List Int) (n : Nat) : Prop := n ≤ xs.length ∧ isSc (pay (xs.take n)) ∧ sp8 (pay (xs.take n)) = xs.take n

theorem g0 (x : Int) (l : List Int) : g (x :: l) 0 = x := rfl
theorem gs (x : Int) (l : List Int) (n : Nat) : g (x :: l) (n + 1) = g l n := by simp [g, List.getD]

theorem pay1 (a : Int) : pay [a] = a := by simp [pay, payF, g]
theorem pay2 (a b : Int) : pay [a, b] = a % 32 * 64 + b % 64 := by simp [pay, payF, g]
theorem pay3 (a b c : Int) : pay [a, b, c] = a % 16 * 4096 + b % 64 * 64 + c % 64 := by simp [pay, payF, g]; omega
theorem pay4 (a b c d : Int) : pay [a, b, c, d] = a % 8 * 262144 + b % 64 * 4096 + c % 64 * 64 + d % 64 := by simp [pay, payF, g]; omega

theorem ok1 {a : Int} {r : List Int} (ha : 0 ≤ a ∧ a ≤ 255) : okN (a :: r) 1 ↔ dec (a :: r) = some (a, 1) := by
  unfold okN
  have e : (a :: r).take 1 = [a] := by simp
  rw [e, pay1]
  unfold dec
  rw [g0]
  constructor
  · rintro ⟨_, hs, h8⟩
    have : a < 128 := by
      unfold sp8 at h8
      split at h8
      · assumption
      · split at h8
        · simp at h8
        · split at h8 <;> simp at h8
    simp [this]
  · intro h
    have : a < 128 := by
      by_cases q : a < 128
      · exact q
      · rw [if_neg (by simp), if_neg q] at h
        split at h
        · cases h
        split at h
        · split at h <;> simp at h
        split at h
        · split at h
          · cases h
          · split at h <;> simp at h
        split at h
        · split at h
          · cases h
          · split at h <;> simp at h
        · cases h
    refine ⟨by simp, ?_, ?_⟩
    · unfold isSc; omega
    · unfold sp8; rw [if_pos this]

theorem ok2 {a b : Int} {r : List Int} (ha : 0 ≤ a ∧ a ≤ 255) (hb : 0 ≤ b ∧ b ≤ 255) : okN (a :: b :: r) 2 ↔ dec (a :: b :: r) = some (a % 32 * 64 + b % 64, 2) := by
  unfold okN
  have e : (a :: b :: r).take 2 = [a, b] := by simp
  rw [e, pay2]
  unfold dec
  rw [g0, gs, g0]
  have hl : ¬ (a :: b :: r).length = 0 := by simp
  have hl2 : ¬ (a :: b :: r).length < 2 := by simp
  rw [if_neg hl]
  constructor
  · rintro ⟨_, hs, h8⟩
    have h8' : 194 ≤ a ∧ a < 224 ∧ tl b := by
      unfold sp8 at h8
      unfold tl
      split at h8
      · simp at h8
      · split at h8
        · simp at h8; omega
        · split at h8 <;> simp at h8
    rw [if_neg (by omega), if_neg (by omega), if_pos (by omega), if_neg]
    rintro (q | q)
    · exact hl2 q
    · exact q h8'.2.2
  · intro h
    have h8' : 194 ≤ a ∧ a < 224 ∧ tl b := by
      split at h
      · simp at h
      split at h
      · cases h
      split at h
      · split at h
        · cases h
        · rename_i q
          refine ⟨by omega, by omega, ?_⟩
          by_cases t : tl b
          · exact t
          · exact absurd (.inr t) q
      split at h
      · split at h
        · cases h
        · split at h <;> simp at h
      split at h
      · split at h
        · cases h
        · split at h <;> simp at h
      · cases h
    obtain ⟨q1, q2, q3⟩ := h8'
    unfold tl at q3
    refine ⟨by simp, ?_, ?_⟩
    · unfold isSc; omega
    · unfold sp8
      rw [if_neg (by omega), if_pos (by omega)]
      have e1 : 192 + (a % 32 * 64 + b % 64) / 64 = a := by omega
      have e2 : 128 + (a % 32 * 64 + b % 64) % 64 = b := by omega
      rw [e1, e2]

theorem ok3 {a b c : Int} {r : List Int} (ha : 0 ≤ a ∧ a ≤ 255) (hb : 0 ≤ b ∧ b ≤ 255) (hc : 0 ≤ c ∧ c ≤ 255) : okN (a :: b :: c :: r) 3 ↔ dec (a :: b :: c :: r) = some (a % 16 * 4096 + b % 64 * 64 + c % 64, 3) := by
  unfold okN
  have e : (a :: b :: c :: r).take 3 = [a, b, c] := by simp
  rw [e, pay3]
  unfold dec
  rw [g0, gs, g0, gs, gs, g0]
  have hl : ¬ (a :: b :: c :: r).length = 0 := by simp
  have hl3 : ¬ (a :: b :: c :: r).length < 3 := by simp
  rw [if_neg hl]
  generalize hV : a % 16 * 4096 + b % 64 * 64 + c % 64 = V
  constructor
  · rintro ⟨_, hs, h8⟩
    have h8' : 224 ≤ a ∧ a < 240 ∧ tl b ∧ tl c ∧ 2048 ≤ V := by
      unfold sp8 at h8
      unfold tl
      split at h8
      · simp at h8
      · split at h8
        · simp at h8
        · split at h8
          · simp at h8; omega
          · simp at h8
    unfold isSc at hs
    rw [if_neg (by omega), if_neg (by omega), if_neg (by omega), if_pos (by omega), if_neg, if_neg (by omega)]
    rintro (q | q | q)
    · exact hl3 q
    · exact q h8'.2.2.1
    · exact q h8'.2.2.2.1
  · intro h
    have h8' : 224 ≤ a ∧ a < 240 ∧ tl b ∧ tl c ∧ 2048 ≤ V ∧ ¬ (55296 ≤ V ∧ V < 57344) := by
      split at h
      · simp at h
      split at h
      · cases h
      split at h
      · split at h <;> simp at h
      split at h
      · split at h
        · cases h
        · rename_i q
          split at h
          · cases h
          · have tb : tl b := by
              by_cases t : tl b
              · exact t
              · exact absurd (.inr (.inl t)) q
            have tc : tl c := by
              by_cases t : tl c
              · exact t
              · exact absurd (.inr (.inr t)) q
            exact ⟨by omega, by omega, tb, tc, by omega, by omega⟩
      split at h
      · split at h
        · cases h
        · split at h <;> simp at h
      · cases h
    obtain ⟨q1, q2, q3, q4, q5, q6⟩ := h8'
    unfold tl at q3 q4
    refine ⟨by simp, ?_, ?_⟩
    · unfold isSc; omega
    · unfold sp8
      rw [if_neg (by omega), if_neg (by omega), if_pos (by omega)]
      have e1 : 224 + V / 4096 = a := by omega
      have e2 : 128 + V / 64 % 64 = b := by omega
      have e3 : 128 + V % 64 = c := by omega
      rw [e1, e2, e3]

theorem ok4 {a b c d : Int} {r : List Int} (ha : 0 ≤ a ∧ a ≤ 255) (hb : 0 ≤ b ∧ b ≤ 255) (hc : 0 ≤ c ∧ c ≤ 255) (hd : 0 ≤ d ∧ d ≤ 255) :
    okN (a :: b :: c :: d :: r) 4 ↔ dec (a :: b :: c :: d :: r) = some (a % 8 * 262144 + b % 64 * 4096 + c % 64 * 64 + d % 64, 4) := by
  unfold okN
  have e : (a :: b :: c :: d :: r).take 4 = [a, b, c, d] := by simp
  rw [e, pay4]
  unfold dec
  rw [g0, gs, g0, gs, gs, g0, gs, gs, gs, g0]
  have hl : ¬ (a :: b :: c :: d :: r).length = 0 := by simp
  have hl4 : ¬ (a :: b :: c :: d :: r).length < 4 := by simp
  rw [if_neg hl]
  generalize hV : a % 8 * 262144 + b % 64 * 4096 + c % 64 * 64 + d % 64 = V
  constructor
  · rintro ⟨_, hs, h8⟩
    unfold isSc at hs
    have h8' : 240 ≤ a ∧ a < 245 ∧ tl b ∧ tl c ∧ tl d ∧ 65536 ≤ V := by
      unfold sp8 at h8
      unfold tl
      split at h8
      · simp at h8
      · split at h8
        · simp at h8
        · split at h8
          · simp at h8
          · simp at h8; omega
    rw [if_neg (by omega), if_neg (by omega), if_neg (by omega), if_neg (by omega), if_pos (by omega), if_neg, if_neg (by omega)]
    rintro (q | q | q | q)
    · exact hl4 q
    · exact q h8'.2.2.1
    · exact q h8'.2.2.2.1
    · exact q h8'.2.2.2.2.1
  · intro h
    have h8' : 240 ≤ a ∧ a < 245 ∧ tl b ∧ tl c ∧ tl d ∧ 65536 ≤ V ∧ V ≤ 1114111 := by
      split at h
      · simp at h
      split at h
      · cases h
      split at h
      · split at h <;> simp at h
      split at h
      · split at h
        · cases h
        · split at h <;> simp at h
      split at h
      · split at h
        · cases h
        · rename_i q
          split at h
          · cases h
          · have tb : tl b := by
              by_cases t : tl b
              · exact t
              · exact absurd (.inr (.inl t)) q
            have tc : tl c := by
              by_cases t : tl c
              · exact t
              · exact absurd (.inr (.inr (.inl t))) q
            have td : tl d := by
              by_cases t : tl d
              · exact t
              · exact absurd (.inr (.inr (.inr t))) q
            exact ⟨by omega, by omega, tb, tc, td, by omega, by omega⟩
      · cases h
    obtain ⟨q1, q2, q3, q4, q5, q6, q7⟩ := h8'
    unfold tl at q3 q4 q5
    refine ⟨by simp, ?_, ?_⟩
    · unfold isSc; omega
    · unfold sp8
      rw [if_neg (by omega), if_neg (by omega), if_neg (by omega)]
      have e1 : 240 + V / 262144 = a := by omega
      have e2 : 128 + V / 4096 % 64 = b := by omega
      have e3 : 128 + V / 64 % 64 = c := by omega
      have e4 : 128 + V % 64 = d := by omega
      rw [e1, e2, e3, e4]

theorem okN_iff {xs : List Int} (hb : ∀ x ∈ xs, 0 ≤ x ∧ x ≤ 255) {n : Nat} (h1 : 1 ≤ n) (h4 : n ≤ 4) (hn : n ≤ xs.length) : okN xs n ↔ dec xs = some (pay (xs.take n), n) := by
  match n, h1, h4, xs, hn, hb with
  | 1, _, _, a :: r, _, hb => rw [show (a :: r).take 1 = [a] by simp, pay1]; exact ok1 (hb a (by simp))
  | 2, _, _, a :: b :: r, _, hb => rw [show (a :: b :: r).take 2 = [a, b] by simp, pay2]; exact ok2 (hb a (by simp)) (hb b (by simp))
  | 3, _, _, a :: b :: c :: r, _, hb => rw [show (a :: b :: c :: r).take 3 = [a, b, c] by simp, pay3]; exact ok3 (hb a (by simp)) (hb b (by simp)) (hb c (by simp))
  | 4, _, _, a :: b :: c :: d :: r, _, hb => rw [show (a :: b :: c :: d :: r).take 4 = [a, b, c, d] by simp, pay4]; exact ok4 (hb a (by simp)) (hb b (by simp)) (hb c (by simp)) (hb d (by simp))

theorem dec_len {xs : List Int} {v : Int} {n : Nat} (h : dec xs = some (v, n)) : 1 ≤ n ∧ n ≤ 4 ∧ n ≤ xs.length := by
  unfold dec at h
  split at h
  · cases h
  split at h
  · simp at h; omega
  split at h
  · cases h
  split at h
  · split at h
    · cases h
    · simp at h; omega
  split at h
  · split at h
    · cases h
    · split at h
      · cases h
      · simp at h; omega
  split at h
  · split at h
    · cases h
    · split at h
      · cases h
      · simp at h; omega
  · cases h

/-- what is read is spelled by what was read -/
theorem dec_sp {xs : List Int} (hb : ∀ x ∈ xs, 0 ≤ x ∧ x ≤ 255) {v : Int} {n : Nat} (h : dec xs = some (v, n)) : isSc v ∧ sp8 v = xs.take n ∧ v = pay (xs.take n) := by
  obtain ⟨h1, h4, hl⟩ := dec_len h
  have e : v = pay (xs.take n) := by
    unfold dec at h
    split at h
    · cases h
    split at h
    · obtain ⟨rfl, rfl⟩ : v = g xs 0 ∧ n = 1 := by simpa [eq_comm] using h
      match xs, hl with
      | a :: r, _ => rw [show (a :: r).take 1 = [a] by simp, pay1, g0]
    split at h
    · cases h
    split at h
    · split at h
      · cases h
      · obtain ⟨rfl, rfl⟩ : v = g xs 0 % 32 * 64 + g xs 1 % 64 ∧ n = 2 := by simpa [eq_comm] using h
        match xs, hl with
        | a :: b :: r, _ => rw [show (a :: b :: r).take 2 = [a, b] by simp, pay2, g0, gs, g0]
    split at h
    · split at h
      · cases h
      · split at h
        · cases h
        · obtain ⟨rfl, rfl⟩ : v = g xs 0 % 16 * 4096 + g xs 1 % 64 * 64 + g xs 2 % 64 ∧ n = 3 := by simpa [eq_comm] using h
          match xs, hl with
          | a :: b :: c :: r, _ => rw [show (a :: b :: c :: r).take 3 = [a, b, c] by simp, pay3, g0, gs, g0, gs, gs, g0]
    split at h
    · split at h
      · cases h
      · split at h
        · cases h
        · obtain ⟨rfl, rfl⟩ : v = g xs 0 % 8 * 262144 + g xs 1 % 64 * 4096 + g xs 2 % 64 * 64 + g xs 3 % 64 ∧ n = 4 := by simpa [eq_comm] using h
          match xs, hl with
          | a :: b :: c :: d :: r, _ => rw [show (a :: b :: c :: d :: r).take 4 = [a, b, c, d] by simp, pay4, g0, gs, g0, gs, gs, g0, gs, gs, gs, g0]
    · cases h
  have := (okN_iff hb h1 h4 hl).2 (by rw [← e]; exact h)
  unfold okN at this
  rw [← e] at this
  exact ⟨this.2.1, this.2.2, e⟩
end Go.Proofs.Qxb6500898a
