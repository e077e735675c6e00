/-
  Qxb6500896aGreatShArr: own work. Rows of cells that are made of pieces of one length (slices and arrays of structs).
-/
import Derived.Test.Qxb6500896aGreatShSimp
namespace Go.Sh
set_option linter.unusedVariables false
set_option linter.unusedSimpArgs false

def rows {α : Type} (f : α → List Value) (xs : List α) : List Value := (xs.map f).flatten

section
variable {α : Type} {f : α → List Value} {k : Nat}

theorem rows_nil : rows f [] = [] := rfl
theorem rows_cons (x : α) (xs : List α) : rows f (x :: xs) = f x ++ rows f xs := by simp [rows]
theorem rows_append (xs ys : List α) : rows f (xs ++ ys) = rows f xs ++ rows f ys := by simp [rows]
theorem rows_length (hk : ∀ x, (f x).length = k) (xs : List α) : (rows f xs).length = xs.length * k := by
  induction xs with
  | nil => simp [rows_nil]
  | cons x xs ih => rw [rows_cons, List.length_append, ih, hk, List.length_cons, Nat.succ_mul, Nat.add_comm]
theorem rows_split (xs : List α) (i : Nat) (h : i < xs.length) : rows f xs = rows f (xs.take i) ++ (f xs[i] ++ rows f (xs.drop (i + 1))) := by
  rw [← rows_cons, ← rows_append]
  congr 1
  rw [List.getElem_cons_drop, List.take_append_drop]
theorem rows_take_length (hk : ∀ x, (f x).length = k) (xs : List α) (i : Nat) (h : i < xs.length) : (rows f (xs.take i)).length = i * k := by
  rw [rows_length hk, List.length_take, Nat.min_eq_left (Nat.le_of_lt h)]
theorem rows_slice (hk : ∀ x, (f x).length = k) (xs : List α) (i : Nat) (h : i < xs.length) : ((rows f xs).drop (i * k)).take k = f xs[i] := by
  rw [rows_split xs i h, List.drop_left' (rows_take_length hk xs i h), List.take_left' (hk _)]
theorem rows_get (hk : ∀ x, (f x).length = k) (xs : List α) (i : Nat) (h : i < xs.length) (j : Nat) (hj : j < k) : (rows f xs)[i * k + j]? = (f xs[i])[j]? := by
  rw [rows_split xs i h, List.getElem?_append_right (by rw [rows_take_length hk xs i h]; omega), rows_take_length hk xs i h,
    show i * k + j - i * k = j by omega, List.getElem?_append_left (by rw [hk]; exact hj)]
theorem rows_le (hk : ∀ x, (f x).length = k) (xs : List α) (i : Nat) (h : i < xs.length) : i * k + k ≤ (rows f xs).length := by
  rw [rows_length hk, ← Nat.succ_mul]; exact Nat.mul_le_mul_right k h
theorem rows_set_list (xs : List α) (i : Nat) (h : i < xs.length) (y : α) : rows f (xs.set i y) = rows f (xs.take i) ++ (f y ++ rows f (xs.drop (i + 1))) := by
  rw [rows_split (xs.set i y) i (by simpa using h), List.getElem_set_self, List.take_set_of_le (Nat.le_refl _), List.drop_set_of_lt (Nat.lt_succ_self _)]
theorem rows_setn (hk : ∀ x, (f x).length = k) (xs : List α) (i : Nat) (h : i < xs.length) (y : α) :
    (rows f xs).take (i * k) ++ (f y ++ (rows f xs).drop (i * k + k)) = rows f (xs.set i y) := by
  rw [rows_set_list xs i h y]
  have e := rows_split (f := f) xs i h
  have e1 : (rows f xs).take (i * k) = rows f (xs.take i) := by rw [e, List.take_left' (rows_take_length hk xs i h)]
  have e2 : (rows f xs).drop (i * k + k) = rows f (xs.drop (i + 1)) := by
    rw [e, ← List.drop_drop, List.drop_left' (rows_take_length hk xs i h), List.drop_left' (hk _)]
  rw [e1, e2]
theorem rows_set1 (hk : ∀ x, (f x).length = k) (xs : List α) (i : Nat) (h : i < xs.length) (j : Nat) (hj : j < k) (v : Value) (y : α) (hy : f y = (f xs[i]).set j v) :
    (rows f xs).set (i * k + j) v = rows f (xs.set i y) := by
  rw [rows_set_list xs i h y, rows_split xs i h, List.set_append_right _ _ (by rw [rows_take_length hk xs i h]; omega), rows_take_length hk xs i h,
    show i * k + j - i * k = j by omega, List.set_append_left _ _ (by rw [hk]; exact hj), hy]
end

theorem zrep_rows (z : List Value) (n : Nat) : zrep z (n * z.length) = (List.replicate n z).flatten := by
  induction n with
  | zero => simp [zrep]
  | succ n ih =>
    rw [List.replicate_succ, List.flatten_cons, ← ih]
    unfold zrep
    rw [Nat.succ_mul, Nat.add_comm (n * z.length), List.range_add, List.map_append]
    congr 1
    · apply List.ext_getElem
      · simp
      · intro i h1 h2
        simp only [List.getElem_map, List.getElem_range, List.size_toArray]
        rw [Nat.mod_eq_of_lt h2]
        simp [h2]
    · rw [List.map_map]
      apply List.map_congr_left
      intro i hi
      simp

theorem mks_n {e : TypeId} {z : List Value} {by_ : Nat} {q r : IntKind} {n : Nat} {K : Value → World → Prop} {w : World} (hb : by_ * n ≤ 281474976710656) (hn : n ≤ 9223372036854775807)
    (hk : ∀ w1, Row w1 w.heap.size e (List.replicate n z).flatten → Kp (fun _ => False) w w1 → w1.heap.size = w.heap.size + 1 → K (.slice (some ⟨w.heap.size, 0, none⟩) n n) w1) : mks e z by_ (.int q n) (.int r n) K w := by
  refine ⟨⟨by omega, by omega, ?_, by omega⟩, ?_⟩
  · have : ((by_ * n : Nat) : Int) ≤ 281474976710656 := by omega
    simpa using this
  · have e1 : ((n : Int)).toNat = n := by omega
    simp only [e1, zrep_rows]
    exact hk _ (Row.new w e _) (kp_alloc _) (by simp)
end Go.Sh
