/-
  refusals, and the armed crash, purely.
-/
import Derived.Test.Qxb6500895aQ1
namespace Go.Proofs.Qxb6500895a
set_option linter.unusedVariables false
set_option linter.unusedSimpArgs false

theorem play_refused {s : DS} {op : Op} (h : (playS s op).1 ≠ 0) (hs : ¬ (s.off = false ∧ (playS s op).2.2.off = true)) : (playS s op).2.2 = s := by
  rcases play_cases s op with q | q | q | q | q | q
  · exact absurd q.1 h
  · exact absurd q.1 h
  · exact absurd q.2.2.2.2.2 h
  · exact absurd q.2.2.2.2.2 h
  · exact q.1
  · exact absurd ⟨q.1, q.2.1⟩ hs
/-- how long the buffer of a transfer is -/
def lenOf (op : Op) : Int := if op.kind = 1 then (clampL op.len : Nat) else op.data.length
theorem play_chk {s : DS} {op : Op} (k : op.kind = 0 ∨ op.kind = 1) (h : chkC s op.sec (lenOf op) ≠ 0) : (playS s op).1 = chkC s op.sec (lenOf op) := by
  unfold playS
  rcases k with k | k
  · have e : lenOf op = op.data.length := by unfold lenOf; rw [if_neg (by omega)]
    rw [e] at h ⊢
    simp only [if_pos k]
    unfold wrS
    rw [if_pos h]
  · have e : lenOf op = (clampL op.len : Nat) := by unfold lenOf; rw [if_pos k]
    rw [e]
    simp only [if_neg (show ¬ op.kind = 0 by omega), if_pos k]
theorem play_out {s : DS} {op : Op} (o : s.off = false) (k : op.kind = 0 ∨ op.kind = 1) (h : ¬ (0 ≤ op.sec ∧ op.sec < 12)) : (playS s op).1 = 1 := by
  have : chkC s op.sec (lenOf op) = 1 := by unfold chkC; rw [if_neg (by rw [o]; decide), if_pos h]
  rw [play_chk k (by rw [this]; decide), this]
theorem play_len {s : DS} {op : Op} (o : s.off = false) (k : op.kind = 0 ∨ op.kind = 1) (h : 0 ≤ op.sec ∧ op.sec < 12) (hn : lenOf op ≠ 16) : (playS s op).1 = 2 := by
  have : chkC s op.sec (lenOf op) = 2 := by unfold chkC; rw [if_neg (by rw [o]; decide), if_neg (by simpa using h), if_pos hn]
  rw [play_chk k (by rw [this]; decide), this]
theorem play_offline {s : DS} {op : Op} (o : s.off = true) (k0 : 0 ≤ op.kind) (k1 : op.kind < 7) (k4 : op.kind ≠ 4) : (playS s op).1 = 4 := by
  have hc : ∀ i n, chkC s i n = 4 := fun i n => by unfold chkC; rw [if_pos o]
  unfold playS wrS flS crS arS diS
  simp only [hc, if_pos o]
  by_cases c0 : op.kind = 0
  · simp [c0]
  · by_cases c1 : op.kind = 1
    · simp [c1]
    · by_cases c2 : op.kind = 2
      · simp [c2]
      · by_cases c3 : op.kind = 3
        · simp [c3]
        · by_cases c5 : op.kind = 5
          · simp [c5]
          · have c6 : op.kind = 6 := by omega
            simp [c6]
theorem play_buf {s : DS} {op : Op} (h : (playS s op).1 ≠ 0) : ∀ x ∈ (playS s op).2.1, x = 238 := by
  have none : ∀ x : Int, x ∈ ([] : List Int) → x = 238 := fun x hx => by simp at hx
  unfold playS at *
  by_cases k0 : op.kind = 0
  · simp only [if_pos k0]; exact none
  · simp only [if_neg k0] at *
    by_cases k1 : op.kind = 1
    · simp only [if_pos k1] at *
      unfold rdD
      have : (fillerL op).length = clampL op.len := by simp [fillerL]
      rw [this, if_pos h]
      intro x hx
      exact List.eq_of_mem_replicate hx
    · simp only [if_neg k1]
      by_cases k2 : op.kind = 2
      · simp only [if_pos k2]; exact none
      · simp only [if_neg k2]
        by_cases k3 : op.kind = 3
        · simp only [if_pos k3]; exact none
        · simp only [if_neg k3]
          by_cases k4 : op.kind = 4
          · simp only [if_pos k4]; exact none
          · simp only [if_neg k4]
            by_cases k5 : op.kind = 5
            · simp only [if_pos k5]; exact none
            · simp only [if_neg k5]
              by_cases k6 : op.kind = 6
              · simp only [if_pos k6]; exact none
              · simp only [if_neg k6]; exact none

/-! ### an armed device beside one that is not armed -/
structure Pair (a p : DS) (left : Int) (keep : List Int) (torn at_ : Int) : Prop where
  flu : a.flu = p.flu
  fr : a.fr = p.fr
  off : a.off = p.off
  pl : p.left = 0
  al : a.left = left
  l0 : 0 ≤ left
  pn : left ≠ 0 → a.keep = keep ∧ a.torn = torn ∧ a.at_ = at_

theorem burn_none {p : DS} (h : p.left = 0) : burnS p = (false, p) := by unfold burnS; rw [if_pos h]
theorem burn_dec {p : DS} (h : 1 < p.left) : burnS p = (false, { p with left := p.left - 1 }) := by unfold burnS; rw [if_neg (by omega), if_pos (by omega)]
theorem burn_cut {p : DS} (h : p.left = 1) : burnS p = (true, cutS { p with left := p.left - 1 } p.keep p.torn p.at_) := by unfold burnS; rw [if_neg (by omega), if_neg (by omega)]

section
variable {a p : DS} {left torn at_ : Int} {keep : List Int} {op : Op}
theorem Pair.arm (h : Pair a p left keep torn at_) (k : op.kind = 5) :
    ((playS a op).1 = 0 → Pair (playS a op).2.2 p op.after op.keep op.torn op.at_) ∧ ((playS a op).1 ≠ 0 → Pair (playS a op).2.2 p left keep torn at_) := by
  have e : playS a op = ((arS a op.after op.keep op.torn op.at_).1, [], (arS a op.after op.keep op.torn op.at_).2) := by unfold playS; simp [k]
  rw [e]
  unfold arS
  by_cases o : a.off = true
  · simp only [if_pos o]
    exact ⟨fun q => (by cases q), fun _ => h⟩
  · simp only [if_neg o]
    by_cases ha : op.after < 1
    · simp only [if_pos ha]
      exact ⟨fun q => (by cases q), fun _ => h⟩
    · simp only [if_neg ha]
      exact ⟨fun _ => ⟨h.flu, h.fr, h.off, h.pl, rfl, by omega, fun _ => ⟨rfl, rfl, rfl⟩⟩, fun q => absurd rfl q⟩
theorem Pair.disarm (h : Pair a p left keep torn at_) (k : op.kind = 6) :
    ((playS a op).1 = 0 → Pair (playS a op).2.2 p 0 keep torn at_) ∧ ((playS a op).1 ≠ 0 → Pair (playS a op).2.2 p left keep torn at_) := by
  have e : playS a op = ((diS a).1, [], (diS a).2) := by unfold playS; simp [k]
  rw [e]
  unfold diS
  by_cases o : a.off = true
  · simp only [if_pos o]
    exact ⟨fun q => (by cases q), fun _ => h⟩
  · simp only [if_neg o]
    exact ⟨fun _ => ⟨h.flu, h.fr, h.off, h.pl, rfl, by omega, fun q => absurd rfl q⟩, fun q => absurd rfl q⟩

theorem cutF_eq {a p : DS} (h1 : a.flu = p.flu) (h2 : a.fr = p.fr) (k : List Int) (t x : Int) : cutF a k t x = cutF p k t x := by
  funext i; unfold cutF; rw [h1, h2]
theorem Pair.crash {a' p' : DS} {left' : Int} (h : Pair a p left keep torn at_) (hl : left = 1) (ha : a' = cutS { a with left := left' } a.keep a.torn a.at_) (hp : p.off = false) (hp' : p' = (crS p keep torn at_).2) : Pair a' p' 0 keep torn at_ := by
  obtain ⟨e1, e2, e3⟩ := h.pn (by omega)
  subst ha hp'
  unfold crS
  rw [if_neg (by rw [hp]; decide), e1, e2, e3]
  exact ⟨cutF_eq (a := { a with left := left' }) (p := p) h.flu h.fr _ _ _, rfl, rfl, rfl, rfl, by omega, fun q => absurd rfl q⟩

theorem Pair.flush (h : Pair a p left keep torn at_) (k : op.kind = 2) :
    (left = 1 ∧ p.off = false → (playS a op).1 = 4 ∧ Pair (playS a op).2.2 (crS p keep torn at_).2 0 keep torn at_) ∧
    (¬ (left = 1 ∧ p.off = false) → (flS p).1 = (playS a op).1 ∧ ((playS a op).1 = 0 ∧ 0 < left → Pair (playS a op).2.2 (flS p).2 (left - 1) keep torn at_) ∧ (¬ ((playS a op).1 = 0 ∧ 0 < left) → Pair (playS a op).2.2 (flS p).2 left keep torn at_)) := by
  have e : playS a op = ((flS a).1, [], (flS a).2) := by unfold playS; simp [k]
  rw [e]
  have hl0 := h.l0
  by_cases o : a.off = true
  · have o' : p.off = true := by rw [← h.off]; exact o
    refine ⟨fun q => (by rw [q.2] at o'; cases o'), fun _ => ?_⟩
    unfold flS
    simp only [if_pos o, if_pos o']
    exact ⟨trivial, fun q => absurd q.1 (by decide), fun _ => h⟩
  · have o1 : a.off = false := by simpa using o
    have o' : p.off = false := by rw [← h.off]; exact o1
    have o2 : ¬ p.off = true := by rw [o']; decide
    unfold flS
    simp only [if_neg o, if_neg o2]
    have hp : burnS { p with fl := inc p.fl } = (false, { p with fl := inc p.fl }) := burn_none h.pl
    simp only [hp, Bool.false_eq_true, if_false]
    refine ⟨fun q => ?_, fun q => ?_⟩
    · have ha : burnS { a with fl := inc a.fl } = (true, _) := burn_cut (by show a.left = 1; rw [h.al]; exact q.1)
      simp only [ha, if_true]
      refine ⟨trivial, ?_⟩
      have h' : Pair { a with fl := inc a.fl } p left keep torn at_ := ⟨h.flu, h.fr, h.off, h.pl, h.al, h.l0, h.pn⟩
      exact h'.crash q.1 rfl q.2 rfl
    · have hne : left ≠ 1 := fun q' => q ⟨q', o'⟩
      by_cases hz : left = 0
      · have ha : burnS { a with fl := inc a.fl } = (false, { a with fl := inc a.fl }) := burn_none (by show a.left = 0; rw [h.al]; exact hz)
        simp only [ha, Bool.false_eq_true, if_false]
        refine ⟨trivial, fun q' => by omega, fun _ => ?_⟩
        exact ⟨by funext i; show nowS a i = nowS p i; unfold nowS; rw [h.flu, h.fr], rfl, h.off, h.pl, h.al, h.l0, h.pn⟩
      · have ha : burnS { a with fl := inc a.fl } = (false, { a with fl := inc a.fl, left := a.left - 1 }) := burn_dec (by show 1 < a.left; rw [h.al]; omega)
        simp only [ha, Bool.false_eq_true, if_false]
        refine ⟨trivial, fun q' => ?_, fun q' => absurd ⟨trivial, by omega⟩ q'⟩
        exact ⟨by funext i; show nowS a i = nowS p i; unfold nowS; rw [h.flu, h.fr], rfl, h.off, h.pl, by show a.left - 1 = left - 1; rw [h.al], by omega, fun _ => h.pn hz⟩

theorem chk_off {a p : DS} (h : a.off = p.off) (i n : Int) : chkC a i n = chkC p i n := by unfold chkC; rw [h]

theorem Pair.write (h : Pair a p left keep torn at_) (k : op.kind = 0) :
    ((playS p op).1 = 0 ∧ left = 1 → (playS a op).1 = 4 ∧ (playS p op).2.2.off = false ∧ Pair (playS a op).2.2 (crS (playS p op).2.2 keep torn at_).2 0 keep torn at_) ∧
    (¬ ((playS p op).1 = 0 ∧ left = 1) → (playS p op).1 = (playS a op).1 ∧ ((playS a op).1 = 0 ∧ 0 < left → Pair (playS a op).2.2 (playS p op).2.2 (left - 1) keep torn at_) ∧ (¬ ((playS a op).1 = 0 ∧ 0 < left) → Pair (playS a op).2.2 (playS p op).2.2 left keep torn at_)) := by
  have ea : playS a op = ((wrS a op.sec op.data).1, [], (wrS a op.sec op.data).2) := by unfold playS; simp [k]
  have ep : playS p op = ((wrS p op.sec op.data).1, [], (wrS p op.sec op.data).2) := by unfold playS; simp [k]
  rw [ea, ep]
  have hl0 := h.l0
  have hc' := chk_off h.off op.sec op.data.length
  unfold wrS
  by_cases hc : chkC p op.sec op.data.length ≠ 0
  · have hca : chkC a op.sec op.data.length ≠ 0 := by rw [hc']; exact hc
    simp only [if_pos hc, if_pos hca]
    exact ⟨fun q => absurd q.1 hc, fun _ => ⟨hc'.symm, fun q => absurd q.1 hca, fun _ => h⟩⟩
  · have hca : ¬ chkC a op.sec op.data.length ≠ 0 := by rw [hc']; exact hc
    obtain ⟨o', _⟩ := chk_pos (by simpa using hc)
    simp only [if_neg hc, if_neg hca]
    have hp : burnS { p with fr := upd p.fr op.sec.toNat (some op.data), wr := inc p.wr } = (false, _) := burn_none h.pl
    simp only [hp, Bool.false_eq_true, if_false]
    refine ⟨fun q => ?_, fun q => ?_⟩
    · have ha : burnS { a with fr := upd a.fr op.sec.toNat (some op.data), wr := inc a.wr } = (true, _) := burn_cut (by show a.left = 1; rw [h.al]; exact q.2)
      simp only [ha, if_true]
      refine ⟨trivial, o', ?_⟩
      have h' : Pair { a with fr := upd a.fr op.sec.toNat (some op.data), wr := inc a.wr } { p with fr := upd p.fr op.sec.toNat (some op.data), wr := inc p.wr } left keep torn at_ := ⟨h.flu, by show upd a.fr _ _ = upd p.fr _ _; rw [h.fr], h.off, h.pl, h.al, h.l0, h.pn⟩
      exact h'.crash q.2 rfl o' rfl
    · have hne : left ≠ 1 := fun q' => q ⟨trivial, q'⟩
      by_cases hz : left = 0
      · have ha : burnS { a with fr := upd a.fr op.sec.toNat (some op.data), wr := inc a.wr } = (false, _) := burn_none (by show a.left = 0; rw [h.al]; exact hz)
        simp only [ha, Bool.false_eq_true, if_false]
        refine ⟨trivial, fun q' => by omega, fun _ => ?_⟩
        exact ⟨h.flu, by show upd a.fr _ _ = upd p.fr _ _; rw [h.fr], h.off, h.pl, h.al, h.l0, h.pn⟩
      · have ha : burnS { a with fr := upd a.fr op.sec.toNat (some op.data), wr := inc a.wr } = (false, _) := burn_dec (by show 1 < a.left; rw [h.al]; omega)
        simp only [ha, Bool.false_eq_true, if_false]
        refine ⟨trivial, fun q' => ?_, fun q' => absurd ⟨trivial, by omega⟩ q'⟩
        exact ⟨h.flu, by show upd a.fr _ _ = upd p.fr _ _; rw [h.fr], h.off, h.pl, by show a.left - 1 = left - 1; rw [h.al], by omega, fun _ => h.pn hz⟩

theorem Pair.other (h : Pair a p left keep torn at_) (k0 : op.kind ≠ 0) (k2 : op.kind ≠ 2) (k5 : op.kind ≠ 5) (k6 : op.kind ≠ 6) :
    (playS p op).1 = (playS a op).1 ∧ (playS p op).2.1 = (playS a op).2.1 ∧ (op.kind = 3 ∧ (playS a op).1 = 0 → Pair (playS a op).2.2 (playS p op).2.2 0 keep torn at_) ∧ (¬ (op.kind = 3 ∧ (playS a op).1 = 0) → Pair (playS a op).2.2 (playS p op).2.2 left keep torn at_) := by
  by_cases k1 : op.kind = 1
  · have e : ∀ s, playS s op = (chkC s op.sec (clampL op.len : Nat), rdD s op.sec (fillerL op), rdS s op.sec (clampL op.len : Nat)) := fun s => by unfold playS; simp [k1]
    rw [e, e]
    have hc' := chk_off h.off op.sec (clampL op.len : Nat)
    have hc2 := chk_off h.off op.sec (fillerL op).length
    refine ⟨hc'.symm, ?_, fun q => by omega, fun _ => ?_⟩
    · show rdD p _ _ = rdD a _ _
      unfold rdD nowS
      rw [hc2, h.flu, h.fr]
    · show Pair (rdS a _ _) (rdS p _ _) left keep torn at_
      unfold rdS
      rw [hc']
      split
      · exact h
      · exact ⟨h.flu, h.fr, h.off, h.pl, h.al, h.l0, h.pn⟩
  · by_cases k3 : op.kind = 3
    · have e : ∀ s, playS s op = ((crS s op.keep op.torn op.at_).1, [], (crS s op.keep op.torn op.at_).2) := fun s => by unfold playS; simp [k3]
      rw [e, e]
      unfold crS
      by_cases o : a.off = true
      · have o' : p.off = true := by rw [← h.off]; exact o
        simp only [if_pos o, if_pos o']
        exact ⟨trivial, trivial, fun q => absurd q.2 (by decide), fun _ => h⟩
      · have o' : ¬ p.off = true := by rw [← h.off]; exact o
        simp only [if_neg o, if_neg o']
        refine ⟨trivial, trivial, fun _ => ?_, fun q => absurd ⟨k3, trivial⟩ q⟩
        exact ⟨cutF_eq h.flu h.fr _ _ _, rfl, rfl, rfl, rfl, by omega, fun q => absurd rfl q⟩
    · by_cases k4 : op.kind = 4
      · have e : ∀ s, playS s op = ((reS s).1, [], (reS s).2) := fun s => by unfold playS; simp [k4]
        rw [e, e]
        unfold reS
        by_cases o : a.off = true
        · have o' : p.off = true := by rw [← h.off]; exact o
          simp only [if_pos o, if_pos o']
          exact ⟨trivial, trivial, fun q => by omega, fun _ => ⟨h.flu, h.fr, rfl, h.pl, h.al, h.l0, h.pn⟩⟩
        · have o' : ¬ p.off = true := by rw [← h.off]; exact o
          simp only [if_neg o, if_neg o']
          exact ⟨trivial, trivial, fun q => by omega, fun _ => h⟩
      · have e : ∀ s, playS s op = (0, [], s) := fun s => by unfold playS; simp [k0, k1, k2, k3, k4, k5, k6]
        rw [e, e]
        exact ⟨rfl, rfl, fun q => by omega, fun _ => h⟩
end
end Go.Proofs.Qxb6500895a
