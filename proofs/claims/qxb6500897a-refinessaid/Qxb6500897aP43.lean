import Derived.Test.Qxb6500897aP42
namespace Go.Proofs.Qxb6500897a
open Go.Sh Go.RowKit
set_option linter.unusedVariables false
set_option linter.unusedSimpArgs false

/-- a cell of an item is written -/
theorem slSt {α : Type} {f : α → List Value} {k : Nat} {w : World} {e : TypeId} {b : Nat} {v : Value} {xs : List α} {K : World → Prop} (hk : ∀ x, (f x).length = k) (h : Sl f k w e (some b) v xs) {i j : Nat} (hi : i < xs.length) (hj : j < k) (y : α) {x : Value}
    (hy : f y = (f xs[i]).set j x) (hx : scal x = true) (hK : ∀ w1, Sl f k w1 e (some b) v (xs.set i y) → Kp (fun q => q = b) w w1 → K w1) : st1 (.pointer (some ⟨b, i * k + j, none⟩)) x K w := by
  obtain ⟨cap, junk, h1, h2, h3, h4⟩ := h
  have hl := rows_le hk xs i hi
  refine st1_r h4 (by rw [List.length_append]; omega) hx fun w1 r1 hb1 hz1 => ?_
  refine hK w1 ⟨cap, junk, by simpa using h1, by simpa using h2, by simpa using h3, ?_⟩ hb1
  rw [List.set_append_left _ _ (by omega), rows_set1 hk xs i hi j hj x y hy] at r1
  exact r1

theorem map_range_set {α : Type} {m p : Nat} {g g' : Nat → α} (h : ∀ j, j ≠ p → g' j = g j) : ((List.range m).map g).set p (g' p) = (List.range m).map g' := by
  apply List.ext_getElem
  · simp
  · intro j h1 h2
    simp only [List.length_map, List.length_range] at h2
    by_cases e : p = j
    · subst e
      simp
    · rw [List.getElem_set_ne e]
      simp [h j (Ne.symm e)]

/-- the counters while a party is booked: the class, and kk slots -/
def gk (L : List Ent) (a : Nat) (s : Int) (c : Nat) (n kk v : Int) : Ctr :=
  ⟨ins L a (dw a) v + (if s ≤ v ∧ v < s + kk then n else 0), ent L a v 0 + (if v = s ∧ c = 0 then n else 0), ent L a v 1 + (if v = s ∧ c = 1 then n else 0), ent L a v 2 + (if v = s ∧ c = 2 then n else 0)⟩

theorem gk_end (L : List Ent) (a : Nat) (s : Int) (c : Nat) (n v : Int) : gk L a s c n (dw a) v = ctrOf (L ++ [⟨a, s, c, n⟩]) a v := by
  unfold gk ctrOf
  rw [ins_append, ent_append, ent_append, ent_append]
  unfold insT entT
  have e1 : (if s ≤ v ∧ v < s + dw a then n else 0) = (if (⟨a, s, c, n⟩ : Ent).attr = a ∧ (⟨a, s, c, n⟩ : Ent).slot ≤ v ∧ v < (⟨a, s, c, n⟩ : Ent).slot + dw a then (⟨a, s, c, n⟩ : Ent).n else 0) := by simp
  have e2 : ∀ c' : Nat, (if v = s ∧ c = c' then n else 0) = (if (⟨a, s, c, n⟩ : Ent).attr = a ∧ (⟨a, s, c, n⟩ : Ent).slot = v ∧ (⟨a, s, c, n⟩ : Ent).cls = c' then (⟨a, s, c, n⟩ : Ent).n else 0) := by
    intro c'
    by_cases h : v = s
    · subst h; simp
    · have h' : ¬ s = v := fun e => h e.symm
      simp [h, h']
  rw [e1, e2 0, e2 1, e2 2]

theorem ctrOf_other (L : List Ent) {a b : Nat} (s : Int) (c : Nat) (n v : Int) (h : a ≠ b) : ctrOf (L ++ [⟨a, s, c, n⟩]) b v = ctrOf L b v := by
  unfold ctrOf
  rw [ins_append, ent_append, ent_append, ent_append]
  simp [insT, entT, h]

theorem rowOf_other (now : Int) (L : List Ent) {a b : Nat} (s : Int) (c : Nat) (n : Int) (h : a ≠ b) : rowOf now (L ++ [⟨a, s, c, n⟩]) b = rowOf now L b := by
  unfold rowOf rowTo
  simp only [ctrOf_other L s c n _ h]

/-- a row of the view is turned -/
def turn (its : List It) (a : Nat) (cs : List Ctr) : List It := its.modify a fun x => { x with cs := cs }
theorem turn_rb (its : List It) (a : Nat) (cs : List Ctr) : (turn its a cs).map (·.rb) = its.map (·.rb) := by
  unfold turn
  apply List.ext_getElem
  · simp
  · intro j h1 h2
    simp [List.getElem_modify]
    split <;> rfl
theorem turn_it1 (its : List It) (a : Nat) (cs : List Ctr) : rows it1 (turn its a cs) = rows it1 its := by
  have e : (turn its a cs).map it1 = its.map it1 := by
    unfold turn
    apply List.ext_getElem
    · simp
    · intro j h1 h2
      simp [List.getElem_modify]
      split <;> rfl
  unfold rows
  rw [e]
theorem turn_length (its : List It) (a : Nat) (cs : List Ctr) : (turn its a cs).length = its.length := by simp [turn]
theorem turn_at {its : List It} {a : Nat} {cs : List Ctr} {j : Nat} (h : j < (turn its a cs).length) (hj : j < its.length) : (turn its a cs)[j] = if a = j then { its[j] with cs := cs } else its[j] := by
  simp [turn, List.getElem_modify]

theorem VP.turn {w w' : World} {fob : Option Nat} {fv : Value} {sob : Option Nat} {sv : Value} {fs : List Int} {its : List It} {lo a : Nat} {cs : List Ctr} (h : VP w fob fv sob sv fs its lo) (ha : a < its.length)
    (hs : Sl Ctr.cells 4 w' 61 (some its[a].rb) its[a].rv cs) (hk : Kp (fun q => q = its[a].rb) w w') : VP w' fob fv sob sv fs (Go.Proofs.Qxb6500897a.turn its a cs) lo := by
  have hra := h.r _ (List.getElem_mem ha)
  obtain ⟨la, hla⟩ := hra.row rfl
  refine ⟨h.f.kp hk fun b hb e => ?_, ?_, fun x hx => ?_, h.fl, h.sl, fun x hx => ?_, by rw [turn_rb]; exact h.nd⟩
  · subst e
    exact h.f.ne hla (by decide) hb
  · have h1 := h.s.kp hk (fun b hb e => by subst e; exact h.s.ne hla (by decide) hb)
    cases sob with
    | none =>
      obtain ⟨e1, e2⟩ := h1
      subst e2
      simp at ha
    | some q =>
      obtain ⟨cap, junk, q1, q2, q3, q4⟩ := h1
      exact ⟨cap, junk, by rw [turn_length]; exact q1, by rw [turn_length]; exact q2, by rw [turn_length]; exact q3, by rw [turn_it1]; exact q4⟩
  · obtain ⟨j, hj, rfl⟩ := List.getElem_of_mem hx
    have hj' : j < its.length := by rw [turn_length] at hj; exact hj
    rw [turn_at hj hj']
    by_cases e : a = j
    · subst e
      rw [if_pos rfl]
      exact hs
    · rw [if_neg e]
      refine (h.r _ (List.getElem_mem hj')).kp hk fun b hb q => ?_
      have hb' : its[j].rb = b := by simpa using hb
      have hnd := h.nd
      have : (its.map (·.rb))[a]'(by simpa using ha) = (its.map (·.rb))[j]'(by simpa using hj') := by simp; omega
      exact e ((List.getElem_inj hnd).1 this)
  · obtain ⟨j, hj, rfl⟩ := List.getElem_of_mem hx
    have hj' : j < its.length := by rw [turn_length] at hj; exact hj
    rw [turn_at hj hj']
    by_cases e : a = j
    · subst e
      rw [if_pos rfl]
      show lo ≤ its[a].rb
      exact h.rl its[a] (List.getElem_mem ha)
    · rw [if_neg e]
      exact h.rl _ (List.getElem_mem hj')

theorem turn_slots {now : Int} {L : List Ent} {its : List It} {a c : Nat} {s n : Int} (hcs : (vwOf now L).slots = its.map (·.cs)) (ha : a < 4) :
    (vwOf now (L ++ [⟨a, s, c, n⟩])).slots = (turn its a (rowOf now (L ++ [⟨a, s, c, n⟩]) a)).map (·.cs) := by
  obtain ⟨hil, hrows⟩ := its_row hcs
  apply List.ext_getElem
  · simp [vwOf, turn_length, hil]
  · intro j h1 h2
    have hj : j < its.length := by simpa [turn_length] using h2
    rw [List.getElem_map, turn_at (by simpa [turn_length] using hj) hj]
    simp only [vwOf, List.getElem_map, List.getElem_range]
    by_cases e : a = j
    · subst e; rw [if_pos rfl]
    · rw [if_neg e, hrows j hj, rowOf_other now L s c n e]
end Go.Proofs.Qxb6500897a
