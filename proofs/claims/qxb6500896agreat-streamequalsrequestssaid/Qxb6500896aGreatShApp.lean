/-
  slices that grow by append: a list of items, each of k cells.
-/
import Derived.Test.Qxb6500896aGreatShArr
namespace Go.Sh
open Go.RowKit
set_option linter.unusedVariables false
set_option linter.unusedSimpArgs false

/-- v is a slice that shows the items xs; ob is its block -/
def Sl {α : Type} (f : α → List Value) (k : Nat) (w : World) (e : TypeId) (ob : Option Nat) (v : Value) (xs : List α) : Prop :=
  match ob with
  | none => v = .slice none 0 0 ∧ xs = []
  | some b => ∃ (cap : Nat) (junk : List Value), v = .slice (some ⟨b, 0, none⟩) xs.length cap ∧ xs.length ≤ cap ∧ junk.length = (cap - xs.length) * k ∧ Row w b e (rows f xs ++ junk)

theorem row_ne {w : World} {b b' : Nat} {t t' : TypeId} {l l' : List Value} (h : Row w b t l) (h' : Row w b' t' l') (hne : t ≠ t') : b ≠ b' := by
  intro e
  subst e
  unfold Row at h h'
  rw [h] at h'
  simp at h'
  exact hne h'.2

section
variable {α : Type} {f : α → List Value} {k : Nat} {w w' : World} {e : TypeId} {ob : Option Nat} {v : Value} {xs : List α} {K : Value → World → Prop}

theorem Sl.kp {S : Nat → Prop} (h : Sl f k w e ob v xs) (hk : Kp S w w') (hn : ∀ b, ob = some b → ¬ S b) : Sl f k w' e ob v xs := by
  cases ob with
  | none => exact h
  | some b =>
    obtain ⟨cap, junk, h1, h2, h3, h4⟩ := h
    exact ⟨cap, junk, h1, h2, h3, hk.row h4 (hn b rfl)⟩
theorem Sl.kp' (h : Sl f k w e ob v xs) (hk : Kp (fun _ => False) w w') : Sl f k w' e ob v xs := h.kp hk (fun _ _ h => h)
/-- the block of a slice bears its element's type -/
theorem Sl.row (h : Sl f k w e ob v xs) {b : Nat} (hb : ob = some b) : ∃ l, Row w b e l := by
  subst hb
  obtain ⟨cap, junk, h1, h2, h3, h4⟩ := h
  exact ⟨_, h4⟩
theorem Sl.ne (h : Sl f k w e ob v xs) {b : Nat} {t : TypeId} {l : List Value} (hr : Row w b t l) (ht : e ≠ t) : ob ≠ some b := by
  intro he
  obtain ⟨l', h'⟩ := h.row he
  exact row_ne h' hr ht rfl
theorem Sl.ln (h : Sl f k w e ob v xs) (hK : K (.int .i64 xs.length) w) : lnS v K w := by
  cases ob with
  | none => obtain ⟨rfl, rfl⟩ := h; exact hK
  | some b => obtain ⟨cap, junk, rfl, h2, h3, h4⟩ := h; exact hK
theorem Sl.ix (hk : ∀ x, (f x).length = k) (h : Sl f k w e ob v xs) {i : Nat} (hi : i < xs.length)
    (hK : ∀ b l, ob = some b → Row w b e l → (∀ j, j < k → l[i * k + j]? = (f xs[i])[j]?) → i * k + k ≤ l.length → (l.drop (i * k)).take k = f xs[i] → K (.pointer (some ⟨b, i * k, none⟩)) w) : ixs k v (.int .i64 i) K w := by
  cases ob with
  | none => obtain ⟨rfl, rfl⟩ := h; simp at hi
  | some b =>
    obtain ⟨cap, junk, rfl, h2, h3, h4⟩ := h
    refine ⟨⟨by omega, by omega⟩, ?_⟩
    have ei : ((i : Int)).toNat = i := by omega
    rw [ei, add_mk, Nat.zero_add]
    have hl := rows_le hk xs i hi
    refine hK b _ rfl h4 (fun j hj => ?_) (by rw [List.length_append]; omega) ?_
    · rw [List.getElem?_append_left (by omega)]
      exact rows_get hk xs i hi j hj
    · rw [List.drop_append_of_le_length (by omega), List.take_append_of_le_length (by rw [List.length_drop]; omega)]
      exact rows_slice hk xs i hi
theorem Sl.read (hk : ∀ x, (f x).length = k) (h : Sl f k w e ob v xs) {i : Nat} (hi : i < xs.length) (hK : K (.agg (f xs[i]).toArray) w) : ixs k v (.int .i64 i) (fun p w => ldn k p K w) w := by
  refine h.ix hk hi fun b l _ hr _ hl hs => ?_
  refine ldn_r hr hl ?_
  rw [hs]; exact hK

/-- an empty slice, just made -/
theorem Sl.empty {z : List Value} (hK : ∀ w1, Sl f k w1 e (some w.heap.size) (.slice (some ⟨w.heap.size, 0, none⟩) 0 0) ([] : List α) → Kp (fun _ => False) w w1 → w1.heap.size = w.heap.size + 1 → K (.slice (some ⟨w.heap.size, 0, none⟩) 0 0) w1) : bsq e z 0 [] K w := by
  refine bsq_r (l := []) (by simp [zrep, fillL]) fun w1 r1 hb1 hz1 => ?_
  exact hK w1 ⟨0, [], rfl, Nat.le_refl _, by simp, by simpa [rows] using r1⟩ hb1 hz1

/-- append of one item -/
theorem Sl.app {z : List Value} {by_ : Nat} {ps : List (Option (Nat × Nat) × Value)} (hk : ∀ x, (f x).length = k) (hz : z.length = k) (h : Sl f k w e ob v xs) (y : α) (hs : (f y).all scal = true)
    (hsz : (xs.length + 1) * by_ ≤ 140737488355328) (hlen : xs.length + 1 < 9223372036854775808) (hfill : fillL (zrep z (1 * z.length)) ps = some (f y))
    (hK : ∀ w' v' ob', Sl f k w' e ob' v' (xs ++ [y]) → Kp (fun b => ob = some b) w w' → (ob' = ob ∨ ∃ b, ob' = some b ∧ w.heap.size ≤ b) → K v' w') :
    bsq e z 1 ps (fun t w => apq e z by_ v t K w) w := by
  refine bsq_r hfill fun w1 r1 hb1 hz1 => ?_
  have hky := hk y
  have new : ∀ kk : List Value → Prop, kk (f y) → fst' z.length 1 (.slice (some ⟨w.heap.size, 0, none⟩) 1 1) w1 kk := by
    intro kk hkk
    show ldc _ _ 0 (1 * z.length) kk
    refine ldc_r r1 _ 0 _ (by omega) ?_
    have e1 : (List.drop (0 + 0) (f y)).take (1 * z.length) = f y := by rw [List.drop_zero, List.take_of_length_le (by omega)]
    rw [e1]; exact hkk
  cases ob with
  | none =>
    obtain ⟨rfl, rfl⟩ := h
    refine ⟨by simpa using hsz, by omega, fun q => by omega, fun _ => ?_⟩
    refine ⟨rfl, ?_⟩
    refine new _ fun c hc => ?_
    refine hK _ _ (some w1.heap.size) ⟨c, zrep z ((c - 1) * z.length), by simp, by simp; omega, by simp [zrep, hz], ?_⟩ ?_ (.inr ⟨_, rfl, by omega⟩)
    · have := Row.new (drw w1) e (rows f ([] ++ [y]) ++ zrep z ((c - 1) * z.length))
      simpa [rows] using this
    · exact (hb1.none.trans kp_drw).trans (kp_alloc _)
  | some b =>
    obtain ⟨cap, junk, rfl, h2, h3, h4⟩ := h
    have h4' := hb1.row' h4
    have hblt := h4.lt
    have hlr := rows_length hk xs
    refine ⟨hsz, hlen, fun q => ?_, fun q => ?_⟩
    · refine new _ ?_
      rw [add_mk, Nat.zero_add]
      have hj : k ≤ junk.length := by rw [h3]; exact Nat.le_trans (by omega) (Nat.mul_le_mul_right k (show 1 ≤ cap - xs.length by omega))
      refine stc_r (o := xs.length * z.length) (f y) 0 w1 _ h4' (by rw [List.length_append, hlr, hz]; omega) hs fun w2 r2 hb2 hz2 => ?_
      refine hK w2 _ (some b) ⟨cap, junk.drop k, by simp, by simp; omega, ?_, ?_⟩ ?_ (.inl rfl)
      · rw [List.length_drop, h3, List.length_append, List.length_singleton, ← Nat.sub_sub, Nat.sub_mul (cap - xs.length) 1 k, Nat.one_mul]
      · have e1 : List.take (xs.length * z.length + 0) (rows f xs ++ junk) = rows f xs := by rw [hz, Nat.add_zero, List.take_append_of_le_length (by omega), List.take_of_length_le (by omega)]
        have e2 : List.drop (xs.length * z.length + 0 + (f y).length) (rows f xs ++ junk) = junk.drop k := by
          rw [hz, Nat.add_zero, hky, List.drop_append, hlr, List.drop_of_length_le (by omega), List.nil_append, Nat.add_sub_cancel_left]
        rw [e1, e2] at r2
        rw [rows_append]
        simpa [rows] using r2
      · exact hb1.none.trans (hb2.mono fun x _ (e : x = b) => by rw [e])
    · have old : ∀ kk : List Value → Prop, kk (rows f xs) → fst' z.length xs.length (.slice (some ⟨b, 0, none⟩) xs.length cap) w1 kk := by
        intro kk hkk
        show ldc _ _ 0 (xs.length * z.length) kk
        refine ldc_r h4' _ 0 _ (by rw [List.length_append, hlr, hz]; omega) ?_
        have e1 : (List.drop (0 + 0) (rows f xs ++ junk)).take (xs.length * z.length) = rows f xs := by
          rw [List.drop_zero, hz, List.take_append_of_le_length (by omega), List.take_of_length_le (by omega)]
        rw [e1]; exact hkk
      refine old _ (new _ fun c hc => ?_)
      refine hK _ _ (some w1.heap.size) ⟨c, zrep z ((c - (xs.length + 1)) * z.length), by simp, by simp; omega, by simp [zrep, hz], ?_⟩ ?_ (.inr ⟨_, rfl, by omega⟩)
      · have := Row.new (drw w1) e (rows f xs ++ (f y ++ zrep z ((c - (xs.length + 1)) * z.length)))
        rw [rows_append]
        simpa [rows] using this
      · exact (hb1.none.trans kp_drw).trans (kp_alloc _)
end
end Go.Sh
