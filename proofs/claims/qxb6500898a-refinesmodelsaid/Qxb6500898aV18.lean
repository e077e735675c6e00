import Derived.Test.Qxb6500898aV17
namespace Go.Proofs.Qxb6500898a
open Go.Sh Go.RowKit
set_option linter.unusedVariables false
set_option linter.unusedSimpArgs false

/-! ### bits, purely -/
def bt (xs : List Int) (i : Nat) : Int := g xs (i / 8) / 2 ^ (7 - i % 8) % 2
def bitsOf (xs : List Int) : List Int := (List.range (8 * xs.length)).map (bt xs)
/-- the place from which a bit comes when a ring of N is turned right by k -/
def bk (N k i : Nat) : Nat := if k ≤ i then i - k else i + N - k
section
variable {xs ys zs : List Int} {i j k m n p a b c : Nat} {x y : Int}
theorem bitsOf_len : (bitsOf xs).length = 8 * xs.length := by simp [bitsOf]
theorem bitsOf_get (h : i < (bitsOf xs).length) : (bitsOf xs)[i] = bt xs i := by simp [bitsOf]
theorem g_ext (h : xs.length = ys.length) (hg : ∀ j, j < xs.length → g xs j = g ys j) : xs = ys := by
  apply List.ext_getElem h
  intro j h1 h2
  rw [← g_get h1, ← g_get h2, hg j h1]
theorem g_by (h : By xs) (j : Nat) : 0 ≤ g xs j ∧ g xs j ≤ 255 := by
  by_cases hj : j < xs.length
  · rw [g_get hj]; exact h _ (List.getElem_mem hj)
  · unfold g; rw [List.getD_eq_getElem?_getD, List.getElem?_eq_none (by omega)]; decide
theorem byte_bits (hx : 0 ≤ x ∧ x ≤ 255) (hy : 0 ≤ y ∧ y ≤ 255) (h : ∀ q, q < 8 → x / 2 ^ q % 2 = y / 2 ^ q % 2) : x = y := by
  have h0 := h 0 (by decide)
  have h1 := h 1 (by decide)
  have h2 := h 2 (by decide)
  have h3 := h 3 (by decide)
  have h4 := h 4 (by decide)
  have h5 := h 5 (by decide)
  have h6 := h 6 (by decide)
  have h7 := h 7 (by decide)
  simp only [Int.reducePow] at h0 h1 h2 h3 h4 h5 h6 h7
  omega
/-- octets that agree in all bits -/
theorem bits_ext (hx : By xs) (hy : By ys) (hl : xs.length = ys.length) (h : ∀ i, i < 8 * xs.length → bt xs i = bt ys i) : xs = ys := by
  apply g_ext hl
  intro j hj
  apply byte_bits (g_by hx j) (g_by hy j)
  intro q hq
  have := h (8 * j + (7 - q)) (by omega)
  unfold bt at this
  rw [show (8 * j + (7 - q)) / 8 = j by omega, show (8 * j + (7 - q)) % 8 = 7 - q by omega, show 7 - (7 - q) = q by omega] at this
  exact this
/-- one octet of a shift -/
theorem sh_bit (h1 : 1 ≤ p) (h2 : p ≤ 7) (hb : b < 8) (hx : 0 ≤ x ∧ x ≤ 255) (hy : 0 ≤ y ∧ y ≤ 255) : (cyF p x + y / 2 ^ p) / 2 ^ (7 - b) % 2 = if p ≤ b then y / 2 ^ (7 - (b - p)) % 2 else x / 2 ^ (7 - (8 + b - p)) % 2 := by
  have hb' : b = 0 ∨ b = 1 ∨ b = 2 ∨ b = 3 ∨ b = 4 ∨ b = 5 ∨ b = 6 ∨ b = 7 := by omega
  rcases p_cases h1 h2 with rfl | rfl | rfl | rfl | rfl | rfl | rfl <;> rcases hb' with rfl | rfl | rfl | rfl | rfl | rfl | rfl | rfl <;> simp only [cyF, Nat.reduceSub, Nat.reduceAdd, Nat.reduceLeDiff, if_true, if_false, Int.reducePow] <;> omega
theorem rotB_e (hm : m < xs.length) : rotB xs m = xs.drop (xs.length - m) ++ xs.take (xs.length - m) := by
  unfold rotB
  rw [List.take_reverse, List.drop_reverse, List.reverse_reverse, List.reverse_reverse]
theorem rotB_g (hm : m < xs.length) (hj : j < xs.length) : g (rotB xs m) j = g xs (bk xs.length m j) := by
  rw [rotB_e hm]
  unfold bk g
  rw [List.getD_eq_getElem?_getD, List.getD_eq_getElem?_getD]
  have hl : (xs.drop (xs.length - m)).length = m := by rw [List.length_drop]; omega
  by_cases h : m ≤ j
  · rw [if_pos h, List.getElem?_append_right (by omega), hl, List.getElem?_take_of_lt (by omega)]
  · rw [if_neg h, List.getElem?_append_left (by omega), List.getElem?_drop, show xs.length - m + j = j + xs.length - m by omega]
theorem By.rotB (h : By xs) (m : Nat) : By (rotB xs m) := by
  unfold Go.Proofs.Qxb6500898a.rotB
  intro x hx
  rcases List.mem_append.1 hx with q | q
  · exact h x (List.mem_reverse.1 (List.mem_of_mem_take (List.mem_reverse.1 q)))
  · exact h x (List.mem_reverse.1 (List.mem_of_mem_drop (List.mem_reverse.1 q)))
theorem By.rotR (h : By xs) (k : Nat) : By (rotR xs k) := by
  unfold Go.Proofs.Qxb6500898a.rotR
  have hB := h.rotB (k / 8)
  split
  · exact hB
  · intro x hx
    unfold shP at hx
    obtain ⟨j, hj, rfl⟩ := List.mem_map.1 hx
    have pb : ∀ j, 0 ≤ prv (Go.Proofs.Qxb6500898a.rotB xs (k / 8)) j ∧ prv (Go.Proofs.Qxb6500898a.rotB xs (k / 8)) j ≤ 255 := fun j => by unfold prv; split <;> exact g_by hB _
    split
    · exact cy_by (by omega) (by omega) (pb j) (g_by hB j)
    · exact g_by hB j
/-- the octets of a turned string -/
theorem rotR_g (hk : k < 8 * xs.length) (hj : j < xs.length) : g (rotR xs k) j = if k % 8 = 0 then g xs (bk xs.length (k / 8) j) else cyF (k % 8) (g xs (bk xs.length (k / 8 + 1) j)) + g xs (bk xs.length (k / 8) j) / 2 ^ (k % 8) := by
  unfold rotR
  by_cases h : k % 8 = 0
  · rw [if_pos h, if_pos h, rotB_g (by omega) hj]
  · rw [if_neg h, if_neg h]
    have hl : (rotB xs (k / 8)).length = xs.length := rotB_len
    rw [g_get (by rw [shP_len, hl]; exact hj), shP_get (by rw [hl]; exact hj), if_pos hj, rotB_g (by omega) hj]
    unfold prv
    by_cases h0 : j = 0
    · rw [if_pos h0, hl, rotB_g (by omega) (by omega)]
      congr 3
      unfold bk
      subst h0
      split <;> split <;> omega
    · rw [if_neg h0, rotB_g (by omega) (by omega)]
      congr 3
      unfold bk
      split <;> split <;> omega
theorem rotR_bt (hb : By xs) (hk : k < 8 * xs.length) (hi : i < 8 * xs.length) : bt (rotR xs k) i = bt xs (bk (8 * xs.length) k i) := by
  have hj : i / 8 < xs.length := by omega
  unfold bt
  rw [rotR_g hk hj]
  by_cases h : k % 8 = 0
  · rw [if_pos h]
    have e : bk (8 * xs.length) k i / 8 = bk xs.length (k / 8) (i / 8) ∧ bk (8 * xs.length) k i % 8 = i % 8 := by
      unfold bk
      by_cases q : k ≤ i
      · rw [if_pos q, if_pos (by omega)]; omega
      · rw [if_neg q, if_neg (by omega)]; omega
    rw [e.1, e.2]
  · rw [if_neg h, sh_bit (by omega) (by omega) (by omega) (g_by hb _) (g_by hb _)]
    by_cases q : k % 8 ≤ i % 8
    · rw [if_pos q]
      have e : bk (8 * xs.length) k i / 8 = bk xs.length (k / 8) (i / 8) ∧ bk (8 * xs.length) k i % 8 = i % 8 - k % 8 := by
        unfold bk
        by_cases q : k ≤ i
        · rw [if_pos q, if_pos (by omega)]; omega
        · rw [if_neg q, if_neg (by omega)]; omega
      rw [e.1, e.2]
    · rw [if_neg q]
      have e : bk (8 * xs.length) k i / 8 = bk xs.length (k / 8 + 1) (i / 8) ∧ bk (8 * xs.length) k i % 8 = 8 + i % 8 - k % 8 := by
        unfold bk
        by_cases q : k ≤ i
        · rw [if_pos q, if_pos (by omega)]; omega
        · rw [if_neg q]
          by_cases q2 : k / 8 + 1 ≤ i / 8
          · omega
          · rw [if_neg q2]; omega
      rw [e.1, e.2]
theorem bk_lt {N : Nat} (hk : k < N) (hi : i < N) : bk N k i < N := by unfold bk; split <;> omega
theorem rotR_0 (hb : By xs) (h : 0 < xs.length) : rotR xs 0 = xs := by unfold rotR; rw [if_pos rfl]; exact rotB_0
/-- two turns -/
theorem rotR_add (hb : By xs) (ha : a < 8 * xs.length) (hc : c < 8 * xs.length) (hm : m < 8 * xs.length) (h : a + c = m ∨ a + c = m + 8 * xs.length) : rotR (rotR xs a) c = rotR xs m := by
  have l1 : (rotR xs a).length = xs.length := rotR_len
  have b1 := hb.rotR a
  apply bits_ext (b1.rotR c) (hb.rotR m) (by rw [rotR_len, rotR_len, rotR_len])
  intro i hi
  rw [rotR_len, l1] at hi
  rw [rotR_bt b1 (by omega) (by omega), l1, rotR_bt hb ha (bk_lt hc hi), rotR_bt hb hm hi]
  congr 1
  unfold bk
  split <;> split <;> split <;> omega
theorem rotR_back (hb : By xs) (ha : a < 8 * xs.length) (hc : c < 8 * xs.length) (h : a + c = 0 ∨ a + c = 8 * xs.length) : rotR (rotR xs a) c = xs := by
  rw [rotR_add hb ha hc (m := 0) (by omega) (by omega), rotR_0 hb (by omega)]
theorem bits_left (hb : By xs) (h : 0 < xs.length) : bitsOf (rotR xs (8 * xs.length - 1)) = (bitsOf xs).drop 1 ++ (bitsOf xs).take 1 := by
  have l0 := bitsOf_len (xs := xs)
  have l1 := bitsOf_len (xs := rotR xs (8 * xs.length - 1))
  rw [rotR_len] at l1
  apply List.ext_getElem (by rw [List.length_append, List.length_drop, List.length_take]; omega)
  intro i h1 h2
  rw [bitsOf_get, rotR_bt hb (by omega) (by omega)]
  by_cases q : i < 8 * xs.length - 1
  · rw [List.getElem_append_left (by rw [List.length_drop]; omega), List.getElem_drop, bitsOf_get]
    congr 1
    unfold bk; rw [if_neg (by omega)]; omega
  · rw [List.getElem_append_right (by rw [List.length_drop]; omega), List.getElem_take, bitsOf_get]
    congr 1
    rw [List.length_drop]
    unfold bk; rw [if_pos (by omega)]; omega
theorem bits_right (hb : By xs) (h : 0 < xs.length) : bitsOf (rotR xs 1) = (bitsOf xs).drop ((bitsOf xs).length - 1) ++ (bitsOf xs).take ((bitsOf xs).length - 1) := by
  have l0 := bitsOf_len (xs := xs)
  have l1 := bitsOf_len (xs := rotR xs 1)
  rw [rotR_len] at l1
  apply List.ext_getElem (by rw [List.length_append, List.length_drop, List.length_take]; omega)
  intro i h1 h2
  rw [bitsOf_get, rotR_bt hb (by omega) (by omega)]
  by_cases q : i < 1
  · rw [List.getElem_append_left (by rw [List.length_drop]; omega), List.getElem_drop, bitsOf_get]
    congr 1
    unfold bk; rw [if_neg (by omega)]; omega
  · rw [List.getElem_append_right (by rw [List.length_drop]; omega), List.getElem_take, bitsOf_get]
    congr 1
    rw [List.length_drop]
    unfold bk; rw [if_pos (by omega)]; omega
end
end Go.Proofs.Qxb6500898a
