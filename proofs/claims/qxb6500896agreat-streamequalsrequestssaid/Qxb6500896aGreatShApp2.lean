/-
  append of a whole slice to a slice.
-/
import Derived.Test.Qxb6500896aGreatShApp
namespace Go.Sh
open Go.RowKit
set_option linter.unusedVariables false
set_option linter.unusedSimpArgs false

theorem rows_all {α : Type} {f : α → List Value} (hs : ∀ x, (f x).all scal = true) (xs : List α) : (rows f xs).all scal = true := by
  induction xs with
  | nil => rfl
  | cons x xs ih => rw [rows_cons, List.all_append, hs, ih]; rfl

theorem Sl.app2 {α : Type} {f : α → List Value} {k : Nat} {w : World} {e : TypeId} {ob ob2 : Option Nat} {v v2 : Value} {xs ys : List α} {K : Value → World → Prop} {z : List Value} {by_ : Nat}
    (hk : ∀ x, (f x).length = k) (hz : z.length = k) (hs : ∀ y ∈ ys, (f y).all scal = true) (h : Sl f k w e ob v xs) (h2 : Sl f k w e ob2 v2 ys)
    (hsz : (xs.length + ys.length) * by_ ≤ 140737488355328) (hlen : xs.length + ys.length < 9223372036854775808)
    (hK : ∀ w' v' ob', Sl f k w' e ob' v' (xs ++ ys) → Kp (fun b => ob = some b) w w' → (ob' = ob ∨ ∃ b, ob' = some b ∧ w.heap.size ≤ b) → K v' w') :
    apq e z by_ v v2 K w := by
  have hall : (rows f ys).all scal = true := by
    clear hsz hlen hK h2
    induction ys with
    | nil => rfl
    | cons y ys ih => rw [rows_cons, List.all_append, hs y (List.mem_cons_self ..), ih (fun y hy => hs y (List.mem_cons_of_mem _ hy))]; rfl
  have hly := rows_length hk ys
  -- reading a slice
  have rd : ∀ {ob : Option Nat} {v : Value} {xs : List α}, Sl f k w e ob v xs → ∀ kk : List Value → Prop, kk (rows f xs) → fst' z.length xs.length v w kk := by
    intro ob v xs h kk hkk
    cases ob with
    | none => obtain ⟨rfl, rfl⟩ := h; exact ⟨rfl, hkk⟩
    | some b =>
      obtain ⟨cap, junk, rfl, h2, h3, h4⟩ := h
      have hlr := rows_length hk xs
      show ldc _ _ 0 (xs.length * z.length) kk
      refine ldc_r h4 _ 0 _ (by rw [List.length_append, hlr, hz]; omega) ?_
      have e1 : (List.drop (0 + 0) (rows f xs ++ junk)).take (xs.length * z.length) = rows f xs := by
        rw [List.drop_zero, hz, List.take_append_of_le_length (by omega), List.take_of_length_le (by omega)]
      rw [e1]; exact hkk
  -- the second slice's form
  obtain ⟨a2, c2, e2⟩ : ∃ a2 c2, v2 = .slice a2 ys.length c2 := by
    cases ob2 with
    | none => obtain ⟨rfl, rfl⟩ := h2; exact ⟨_, _, rfl⟩
    | some b => obtain ⟨cap, junk, rfl, _⟩ := h2; exact ⟨_, _, rfl⟩
  have rd2 := rd h2
  have rd1 := rd h
  subst e2
  cases ob with
  | none =>
    obtain ⟨rfl, rfl⟩ := h
    refine ⟨by simpa using hsz, by simpa using hlen, fun q => ?_, fun q => ?_⟩
    · have hn : ys = [] := by
        have : ys.length = 0 := by simpa using q
        exact List.eq_nil_of_length_eq_zero this
      subst hn
      refine ⟨rfl, ?_⟩
      exact hK w _ none ⟨rfl, rfl⟩ (Kp.refl _ _) (.inl rfl)
    · refine ⟨rfl, ?_⟩
      refine rd2 _ fun c hc => ?_
      refine hK _ _ (some w.heap.size) ⟨c, zrep z ((c - (0 + ys.length)) * z.length), by simp, by simp at hc ⊢; omega, by simp [zrep, hz], ?_⟩ ?_ (.inr ⟨_, rfl, Nat.le_refl _⟩)
      · have := Row.new (drw w) e (rows f ([] ++ ys) ++ zrep z ((c - (0 + ys.length)) * z.length))
        simpa [rows] using this
      · exact kp_drw.trans (kp_alloc _)
  | some b =>
    obtain ⟨cap, junk, rfl, h2', h3, h4⟩ := h
    have hlr := rows_length hk xs
    refine ⟨hsz, hlen, fun q => ?_, fun q => ?_⟩
    · refine rd2 _ ?_
      rw [add_mk, Nat.zero_add]
      have hj : ys.length * k ≤ junk.length := by rw [h3]; exact Nat.mul_le_mul_right k (by omega)
      refine stc_r (o := xs.length * z.length) (rows f ys) 0 w _ h4 (by rw [List.length_append, hlr, hly, hz]; omega) hall fun w2 r2 hb2 hz2 => ?_
      refine hK w2 _ (some b) ⟨cap, junk.drop (ys.length * k), by simp, by simp; omega, ?_, ?_⟩ ?_ (.inl rfl)
      · rw [List.length_drop, h3, List.length_append, ← Nat.sub_sub, Nat.sub_mul (cap - xs.length) ys.length k]
      · have e1 : List.take (xs.length * z.length + 0) (rows f xs ++ junk) = rows f xs := by rw [hz, Nat.add_zero, List.take_append_of_le_length (by omega), List.take_of_length_le (by omega)]
        have e2 : List.drop (xs.length * z.length + 0 + (rows f ys).length) (rows f xs ++ junk) = junk.drop (ys.length * k) := by
          rw [hz, Nat.add_zero, hly, List.drop_append, hlr, List.drop_of_length_le (by omega), List.nil_append, Nat.add_sub_cancel_left]
        rw [e1, e2] at r2
        rw [rows_append, List.append_assoc]
        exact r2
      · exact hb2.mono fun x _ (e : x = b) => by rw [e]
    · refine rd1 _ (rd2 _ fun c hc => ?_)
      refine hK _ _ (some w.heap.size) ⟨c, zrep z ((c - (xs.length + ys.length)) * z.length), by simp, by simp; omega, by simp [zrep, hz], ?_⟩ ?_ (.inr ⟨_, rfl, Nat.le_refl _⟩)
      · have := Row.new (drw w) e (rows f xs ++ (rows f ys ++ zrep z ((c - (xs.length + ys.length)) * z.length)))
        rw [rows_append, List.append_assoc]
        exact this
      · exact kp_drw.trans (kp_alloc _)
end Go.Sh
