import Derived.Test.Qxb6500898aL4
namespace Go.Proofs.Qxb6500898a
open Go.Sh Go.RowKit
set_option linter.unusedVariables false
set_option linter.unusedSimpArgs false

/-! ### sums, purely -/
/-- the number that bits stand for -/
def val2 : List Int → Int
  | [] => 0
  | x :: r => x * 2 ^ r.length + val2 r
def Bits01 (l : List Int) : Prop := ∀ x ∈ l, 0 ≤ x ∧ x ≤ 1
section
variable {xs ys zs l : List Int} {n i j k : Nat} {x T T' r r' y : Int}
theorem val2_app (xs ys : List Int) : val2 (xs ++ ys) = val2 xs * 2 ^ ys.length + val2 ys := by
  induction xs with
  | nil => simp [val2]
  | cons x xs ih => rw [List.cons_append, val2, val2, ih, List.length_append, Int.pow_add, Int.add_mul, Int.mul_assoc, Int.add_assoc]
theorem pw2_pos (n : Nat) : (0 : Int) < 2 ^ n := Int.pow_pos (by decide)
theorem val2_rng : ∀ {xs : List Int}, Bits01 xs → 0 ≤ val2 xs ∧ val2 xs < 2 ^ xs.length
  | [], _ => by simp [val2]
  | x :: r, h => by
    have ih := val2_rng (xs := r) (fun y hy => h y (List.mem_cons_of_mem _ hy))
    have hx := h x (List.mem_cons_self ..)
    have hp := pw2_pos r.length
    rw [val2, List.length_cons, Int.pow_succ]
    have h1 : 0 ≤ x * 2 ^ r.length := Int.mul_nonneg hx.1 (by omega)
    have h2 : x * 2 ^ r.length ≤ 1 * 2 ^ r.length := Int.mul_le_mul_of_nonneg_right hx.2 (by omega)
    omega
theorem pw_28 (n : Nat) : (2 : Int) ^ (8 * n) = 256 ^ n := by rw [Int.pow_mul]; rfl
theorem bits8 (x : Int) : (List.range 8).map (fun i => x / 2 ^ (7 - i) % 2) = [x / 128 % 2, x / 64 % 2, x / 32 % 2, x / 16 % 2, x / 8 % 2, x / 4 % 2, x / 2 % 2, x / 1 % 2] := rfl
theorem bitsOf_cons : bitsOf (x :: xs) = [x / 128 % 2, x / 64 % 2, x / 32 % 2, x / 16 % 2, x / 8 % 2, x / 4 % 2, x / 2 % 2, x / 1 % 2] ++ bitsOf xs := by
  unfold bitsOf
  rw [List.length_cons, show 8 * (xs.length + 1) = 8 + 8 * xs.length by omega, List.range_add, List.map_append, ← bits8]
  congr 1
  · rw [List.map_map]
    apply List.map_congr_left
    intro i hi
    show bt (x :: xs) (8 + i) = bt xs i
    unfold bt
    rw [show (8 + i) / 8 = i / 8 + 1 by omega, show (8 + i) % 8 = i % 8 by omega]
    rfl
theorem bits01 (xs : List Int) : Bits01 (bitsOf xs) := by
  intro x hx
  unfold bitsOf at hx
  obtain ⟨i, _, rfl⟩ := List.mem_map.1 hx
  unfold bt
  omega
theorem val2_8 {a b c d e f g h : Int} : val2 [a, b, c, d, e, f, g, h] = a * 128 + b * 64 + c * 32 + d * 16 + e * 8 + f * 4 + g * 2 + h := by
  simp only [val2, List.length_cons, List.length_nil, Nat.reduceAdd, Int.reducePow]
  omega
theorem val_bits : ∀ {xs : List Int}, By xs → val2 (bitsOf xs) = val xs
  | [], _ => rfl
  | x :: r, h => by
    have ih := val_bits (xs := r) (fun y hy => h y (List.mem_cons_of_mem _ hy))
    have hx := h x (List.mem_cons_self ..)
    rw [bitsOf_cons, val2_app, bitsOf_len, pw_28, ih, val, val2_8]
    congr 2
    omega
theorem val_inj : ∀ {xs ys : List Int}, By xs → By ys → xs.length = ys.length → val xs = val ys → xs = ys
  | [], [], _, _, _, _ => rfl
  | [], y :: s, _, _, h, _ => by simp at h
  | x :: r, [], _, _, h, _ => by simp at h
  | x :: r, y :: s, hx, hy, hl, hv => by
    have hl' : r.length = s.length := by simpa using hl
    have hr : By r := fun z hz => hx z (List.mem_cons_of_mem _ hz)
    have hs : By s := fun z hz => hy z (List.mem_cons_of_mem _ hz)
    have r1 := val_rng hr
    have r2 := val_rng hs
    rw [val, val, hl'] at hv
    rw [hl'] at r1
    have hp := pw_pos s.length
    generalize (256 : Int) ^ s.length = P at *
    have e : x = y := by
      rcases Int.lt_trichotomy x y with q | q | q
      · have h1 : (x + 1) * P ≤ y * P := Int.mul_le_mul_of_nonneg_right (by omega) (by omega)
        rw [Int.add_mul] at h1; omega
      · exact q
      · have h1 : (y + 1) * P ≤ x * P := Int.mul_le_mul_of_nonneg_right (by omega) (by omega)
        rw [Int.add_mul] at h1; omega
    subst e
    rw [val_inj hr hs hl' (by omega)]
/-- a list of bits is the bits of octets -/
theorem bits_of (h : Bits01 l) (hl : l.length = 8 * n) : ∃ zs, By zs ∧ zs.length = n ∧ bitsOf zs = l := by
  induction n generalizing l with
  | zero => exact ⟨[], fun x hx => (by cases hx), rfl, (List.eq_nil_of_length_eq_zero (by omega)).symm⟩
  | succ n ih =>
    match l, hl with
    | a :: b :: c :: d :: e :: f :: g :: i :: t, hl =>
      obtain ⟨zs, h1, h2, h3⟩ := ih (l := t) (fun x hx => h x (by simp [hx])) (by simp at hl; omega)
      have ha := h a (by simp)
      have hb := h b (by simp)
      have hc := h c (by simp)
      have hd := h d (by simp)
      have he := h e (by simp)
      have hf := h f (by simp)
      have hg := h g (by simp)
      have hi := h i (by simp)
      refine ⟨(a * 128 + b * 64 + c * 32 + d * 16 + e * 8 + f * 4 + g * 2 + i) :: zs, ?_, by simp [h2], ?_⟩
      · intro x hx
        rcases List.mem_cons.1 hx with q | q
        · rw [q]; omega
        · exact h1 x q
      · rw [bitsOf_cons, h3]
        show _ :: _ :: _ :: _ :: _ :: _ :: _ :: _ :: t = _
        congr 1
        · omega
        congr 1
        · omega
        congr 1
        · omega
        congr 1
        · omega
        congr 1
        · omega
        congr 1
        · omega
        congr 1
        · omega
        congr 1
        · omega
theorem Res.uniq (h : Res n T r) (h' : Res n T r') (hr : 0 ≤ r ∧ r < 256 ^ n) (hr' : 0 ≤ r' ∧ r' < 256 ^ n) : r = r' := by
  obtain ⟨t, h1, h2, h3, h4⟩ := h
  obtain ⟨t', h1', h2', h3', h4'⟩ := h'
  have hp := pw_pos n
  generalize (256 : Int) ^ n = P at *
  have hT : 0 ≤ T := by have := Int.mul_nonneg h1 (show 0 ≤ P - 1 by omega); omega
  by_cases hz : T = 0
  · rw [h4 hz, h4' hz]
  · have p1 := h3 (by omega)
    have p2 := h3' (by omega)
    rcases Int.lt_trichotomy t t' with q | q | q
    · have h5 : (t + 1) * (P - 1) ≤ t' * (P - 1) := Int.mul_le_mul_of_nonneg_right (by omega) (by omega)
      rw [Int.add_mul] at h5; omega
    · subst q; omega
    · have h5 : (t' + 1) * (P - 1) ≤ t * (P - 1) := Int.mul_le_mul_of_nonneg_right (by omega) (by omega)
      rw [Int.add_mul] at h5; omega
/-- one more addend -/
theorem Res.more (h : Res n T r) (h' : Res n (r + y) r') (hr : 0 ≤ r) (hy : 0 ≤ y) : Res n (T + y) r' := by
  obtain ⟨t, h1, h2, h3, h4⟩ := h
  obtain ⟨t', h1', h2', h3', h4'⟩ := h'
  have hp := pw_pos n
  have hT : 0 ≤ T := by have := Int.mul_nonneg h1 (show 0 ≤ (256 : Int) ^ n - 1 by omega); omega
  refine ⟨t + t', by omega, by rw [Int.add_mul]; omega, fun q => ?_, fun q => ?_⟩
  · apply h3'
    by_cases hz : T = 0
    · omega
    · have := h3 (by omega); omega
  · have e1 : T = 0 := by omega
    have := h4 e1
    apply h4'; omega
theorem res_eq (h : Res n T (val xs)) (h' : Res n T (val ys)) (hx : By xs) (hy : By ys) (lx : xs.length = n) (ly : ys.length = n) : xs = ys := by
  have rx := val_rng hx
  have ry := val_rng hy
  rw [lx] at rx
  rw [ly] at ry
  exact val_inj hx hy (by omega) (h.uniq h' rx ry)
end
end Go.Proofs.Qxb6500898a
