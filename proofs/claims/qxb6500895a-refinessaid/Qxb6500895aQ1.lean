/-
  what a step does, purely.
-/
import Derived.Test.Qxb6500895aD7
namespace Go.Proofs.Qxb6500895a
set_option linter.unusedVariables false
set_option linter.unusedSimpArgs false

theorem burn_now (s : DS) (h : (burnS s).2.off = false) : (burnS s).1 = false ∧ (burnS s).2.flu = s.flu ∧ (burnS s).2.fr = s.fr ∧ (burnS s).2.off = s.off := by
  unfold burnS at *
  split
  · exact ⟨rfl, rfl, rfl, rfl⟩
  · rename_i h0
    rw [if_neg h0] at h
    split
    · exact ⟨rfl, rfl, rfl, rfl⟩
    · rename_i h1
      rw [if_neg h1] at h
      cases h
theorem burn_off (s : DS) : (burnS s).1 = true → (burnS s).2 = cutS { s with left := s.left - 1 } s.keep s.torn s.at_ := by
  unfold burnS
  split
  · intro h; cases h
  · split
    · intro h; cases h
    · intro _; rfl
theorem burn_on (s : DS) (h : (burnS s).1 = false) : (burnS s).2.flu = s.flu ∧ (burnS s).2.fr = s.fr ∧ (burnS s).2.off = s.off := by
  unfold burnS at *
  split
  · exact ⟨rfl, rfl, rfl⟩
  · rename_i h0
    rw [if_neg h0] at h
    split
    · exact ⟨rfl, rfl, rfl⟩
    · rename_i h1
      rw [if_neg h1] at h
      cases h

theorem chk_pos {s : DS} {i n : Int} (h : chkC s i n = 0) : s.off = false ∧ 0 ≤ i ∧ i < 12 ∧ n = 16 := by
  unfold chkC at h
  cases ho : s.off with
  | true => rw [if_pos ho] at h; cases h
  | false =>
    rw [if_neg (by rw [ho]; decide)] at h
    by_cases hi : 0 ≤ i ∧ i < 12
    · rw [if_neg (by simpa using hi)] at h
      by_cases hn : n = 16
      · exact ⟨rfl, hi.1, hi.2, hn⟩
      · rw [if_pos hn] at h; cases h
    · rw [if_pos hi] at h; cases h

/-- has the step cut the power? -/
def struck (s : DS) (op : Op) : Prop := s.off = false ∧ (playS s op).2.2.off = true
/-- the accepted write is in the cache -/
def frW (s : DS) (op : Op) : Nat → Option (List Int) := if op.kind = 0 then upd s.fr op.sec.toNat (some op.data) else s.fr

/-- every step is of one of these kinds -/
theorem play_cases (s : DS) (op : Op) :
    ((playS s op).1 = 0 ∧ op.kind = 0 ∧ s.off = false ∧ 0 ≤ op.sec ∧ op.sec < 12 ∧ op.data.length = 16 ∧ (playS s op).2.2.off = false ∧ (playS s op).2.2.flu = s.flu ∧ (playS s op).2.2.fr = upd s.fr op.sec.toNat (some op.data)) ∨
    ((playS s op).1 = 0 ∧ op.kind = 2 ∧ s.off = false ∧ (playS s op).2.2.off = false ∧ (playS s op).2.2.flu = nowS s ∧ (playS s op).2.2.fr = fun _ => none) ∨
    ((playS s op).2.2.off = s.off ∧ op.kind ≠ 0 ∧ op.kind ≠ 2 ∧ (playS s op).2.2.flu = s.flu ∧ (playS s op).2.2.fr = s.fr ∧ (playS s op).1 = 0) ∨
    (op.kind = 4 ∧ s.off = true ∧ (playS s op).2.2.off = false ∧ (playS s op).2.2.flu = s.flu ∧ (playS s op).2.2.fr = s.fr ∧ (playS s op).1 = 0) ∨
    ((playS s op).2.2 = s ∧ (playS s op).1 ≠ 0) ∨
    (s.off = false ∧ (playS s op).2.2.off = true ∧ (op.kind = 0 ∨ op.kind = 2 ∨ op.kind = 3) ∧ (op.kind = 0 → 0 ≤ op.sec ∧ op.sec < 12 ∧ op.data.length = 16) ∧ (op.kind ≠ 3 → (playS s op).1 = 4) ∧ (op.kind = 3 → (playS s op).1 = 0) ∧
      (playS s op).2.2.flu = (if op.kind = 3 then cutF { s with fr := frW s op } op.keep op.torn op.at_ else cutF { s with fr := frW s op } s.keep s.torn s.at_) ∧ (playS s op).2.2.fr = fun _ => none) := by
  unfold playS frW
  by_cases k0 : op.kind = 0
  · simp only [if_pos k0]
    unfold wrS
    by_cases hc : chkC s op.sec op.data.length ≠ 0
    · simp only [if_pos hc]
      exact .inr (.inr (.inr (.inr (.inl ⟨trivial, hc⟩))))
    · simp only [if_neg hc]
      obtain ⟨h1, h2, h3, h4⟩ := chk_pos (by simpa using hc)
      cases hb : (burnS { s with fr := upd s.fr op.sec.toNat (some op.data), wr := inc s.wr }).1 with
      | true =>
        have := burn_off _ hb
        refine .inr (.inr (.inr (.inr (.inr ⟨h1, by rw [this]; rfl, .inl k0, fun _ => ⟨h2, h3, by omega⟩, fun _ => by simp, fun q => by omega, ?_, by rw [this]; rfl⟩))))
        rw [this, if_neg (by omega)]
        rfl
      | false =>
        obtain ⟨a1, a2, a3⟩ := burn_on _ hb
        exact .inl ⟨by simp, k0, h1, h2, h3, by omega, by rw [a3]; exact h1, a1, a2⟩
  · simp only [if_neg k0]
    by_cases k1 : op.kind = 1
    · simp only [if_pos k1]
      unfold rdS
      by_cases hc : chkC s op.sec (clampL op.len : Nat) ≠ 0
      · simp only [if_pos hc]
        exact .inr (.inr (.inr (.inr (.inl ⟨trivial, hc⟩))))
      · simp only [if_neg hc]
        exact .inr (.inr (.inl ⟨trivial, by omega, by omega, trivial, trivial, by simpa using hc⟩))
    · simp only [if_neg k1]
      by_cases k2 : op.kind = 2
      · simp only [if_pos k2]
        unfold flS
        by_cases ho : s.off = true
        · simp only [if_pos ho]
          exact .inr (.inr (.inr (.inr (.inl ⟨trivial, by decide⟩))))
        · simp only [if_neg ho]
          have ho' : s.off = false := by simpa using ho
          cases hb : (burnS { s with fl := inc s.fl }).1 with
          | true =>
            have := burn_off _ hb
            simp only [if_true]
            refine .inr (.inr (.inr (.inr (.inr ⟨ho', by rw [this]; rfl, .inr (.inl k2), fun q => by omega, fun _ => trivial, fun q => by omega, ?_, by rw [this]; rfl⟩))))
            rw [this, if_neg (by omega)]
            rfl
          | false =>
            simp only [Bool.false_eq_true, if_false]
            obtain ⟨a1, a2, a3⟩ := burn_on _ hb
            refine .inr (.inl ⟨trivial, k2, ho', by rw [a3]; exact ho', ?_, trivial⟩)
            funext i
            unfold nowS
            rw [a1, a2]
      · simp only [if_neg k2]
        by_cases k3 : op.kind = 3
        · simp only [if_pos k3]
          unfold crS
          cases ho : s.off with
          | true =>
            simp only [if_true]
            exact .inr (.inr (.inr (.inr (.inl ⟨trivial, by decide⟩))))
          | false =>
            simp only [Bool.false_eq_true, if_false]
            exact .inr (.inr (.inr (.inr (.inr ⟨trivial, rfl, .inr (.inr k3), fun q => by omega, fun q => absurd k3 q, fun q => trivial, rfl, rfl⟩))))
        · simp only [if_neg k3]
          by_cases k4 : op.kind = 4
          · simp only [if_pos k4]
            unfold reS
            cases ho : s.off with
            | true =>
              simp only [if_true]
              exact .inr (.inr (.inr (.inl ⟨k4, trivial, trivial, trivial, trivial, trivial⟩)))
            | false =>
              simp only [Bool.false_eq_true, if_false]
              exact .inr (.inr (.inr (.inr (.inl ⟨trivial, by decide⟩))))
          · simp only [if_neg k4]
            by_cases k5 : op.kind = 5
            · simp only [if_pos k5]
              unfold arS
              cases ho : s.off with
              | true =>
                simp only [if_true]
                exact .inr (.inr (.inr (.inr (.inl ⟨trivial, by decide⟩))))
              | false =>
                simp only [Bool.false_eq_true, if_false]
                by_cases ha : op.after < 1
                · simp only [if_pos ha]
                  exact .inr (.inr (.inr (.inr (.inl ⟨trivial, by decide⟩))))
                · simp only [if_neg ha]
                  exact .inr (.inr (.inl ⟨by first | exact ho | trivial, by omega, by omega, trivial, trivial, trivial⟩))
            · simp only [if_neg k5]
              by_cases k6 : op.kind = 6
              · simp only [if_pos k6]
                unfold diS
                cases ho : s.off with
                | true =>
                  simp only [if_true]
                  exact .inr (.inr (.inr (.inr (.inl ⟨trivial, by decide⟩))))
                | false =>
                  simp only [Bool.false_eq_true, if_false]
                  exact .inr (.inr (.inl ⟨by first | exact ho | trivial, by omega, by omega, trivial, trivial, trivial⟩))
              · simp only [if_neg k6]
                exact .inr (.inr (.inl ⟨trivial, by omega, by omega, trivial, trivial, trivial⟩))

/-- what reads give after a step that leaves the power on -/
theorem play_now {s : DS} {op : Op} (h : (playS s op).2.2.off = false) (i : Nat) : nowS (playS s op).2.2 i = if op.kind = 0 ∧ (playS s op).1 = 0 ∧ op.sec = (i : Int) then op.data else nowS s i := by
  rcases play_cases s op with ⟨c, k, o, h1, h2, _, _, e1, e2⟩ | ⟨c, k, o, _, e1, e2⟩ | ⟨_, k, _, e1, e2, _⟩ | ⟨k, _, _, e1, e2, _⟩ | ⟨e, c⟩ | ⟨_, q, _⟩
  · by_cases e : op.sec = (i : Int)
    · rw [if_pos ⟨k, c, e⟩]
      unfold nowS
      rw [e1, e2]
      unfold upd
      rw [if_pos (by omega)]; rfl
    · rw [if_neg (fun q => e q.2.2)]
      unfold nowS
      rw [e1, e2]
      unfold upd
      rw [if_neg (by omega)]
  · rw [if_neg (fun q => by omega)]
    unfold nowS
    rw [e1, e2]; rfl
  · rw [if_neg (fun q => k q.1)]
    unfold nowS
    rw [e1, e2]
  · rw [if_neg (fun q => by omega)]
    unfold nowS
    rw [e1, e2]
  · rw [if_neg (fun q => c q.2.1), e]
  · rw [h] at q; cases q
/-- a read that is accepted -/
theorem play_read {s : DS} {op : Op} (k : op.kind = 1) (h : (playS s op).1 = 0) : s.off = false ∧ 0 ≤ op.sec ∧ op.sec < 12 ∧ (playS s op).2.1 = nowS s op.sec.toNat := by
  unfold playS at *
  simp only [if_neg (show ¬ op.kind = 0 by omega), if_pos k] at *
  obtain ⟨h1, h2, h3, h4⟩ := chk_pos h
  refine ⟨h1, h2, h3, ?_⟩
  unfold rdD
  have : (fillerL op).length = clampL op.len := by simp [fillerL]
  rw [this, h]
  simp
end Go.Proofs.Qxb6500895a
