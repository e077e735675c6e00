/-
  slices of single cells, anywhere in memory; the rule of 'copy'.
-/
import Derived.Test.Qxb6500896aGreatShLeaf
import Derived.Test.Qxb6500896aGreatShApp2
namespace Go.Sh
open Go.RowKit
set_option linter.unusedVariables false
set_option linter.unusedSimpArgs false

/-- v is a slice that shows the cells f x, x in xs -/
def Vs {α : Type} (f : α → Value) (w : World) (v : Value) (xs : List α) : Prop :=
  (v = .slice none 0 0 ∧ xs = []) ∨ (∃ a cap, v = .slice (some a) 0 cap ∧ xs = []) ∨ ∃ b o cap, v = .slice (some ⟨b, o, none⟩) xs.length cap ∧ xs.length ≤ cap ∧ xs.length ≤ 9223372036854775807 ∧ Cells w b o (xs.map f)

section
variable {α : Type} {f : α → Value} {w w' : World} {v : Value} {xs : List α} {K : Value → World → Prop}
theorem Vs.kp {S : Nat → Prop} (h : Vs f w v xs) (hk : Kp S w w') (hn : ∀ b o c, 0 < xs.length → v = .slice (some ⟨b, o, none⟩) xs.length c → ¬ S b) : Vs f w' v xs := by
  rcases h with q | q | ⟨b, o, cap, h1, h2, h4, h3⟩
  · exact .inl q
  · exact .inr (.inl q)
  · refine .inr <| .inr ⟨b, o, cap, h1, h2, h4, ?_⟩
    by_cases h0 : 0 < xs.length
    · exact h3.kp hk (hn b o cap h0 h1)
    · intro j hj; rw [List.length_map] at hj; omega
theorem Vs.kp' (h : Vs f w v xs) (hk : Kp (fun _ => False) w w') : Vs f w' v xs := h.kp hk (fun _ _ _ _ _ h => h)
theorem Vs.ln (h : Vs f w v xs) (hK : K (.int .i64 xs.length) w) : lnS v K w := by
  rcases h with ⟨rfl, rfl⟩ | ⟨a, cap, rfl, rfl⟩ | ⟨b, o, cap, rfl, _⟩
  · exact hK
  · exact hK
  · exact hK
theorem Vs.len (h : Vs f w v xs) : xs.length ≤ 9223372036854775807 := by
  rcases h with ⟨rfl, rfl⟩ | ⟨a, cap, rfl, rfl⟩ | ⟨b, o, cap, rfl, h1, h2, _⟩
  · simp
  · simp
  · omega
theorem Vs.ix (h : Vs f w v xs) {i : Nat} (hi : i < xs.length) (hK : ∀ b q, (∀ K' : Value → World → Prop, K' (f xs[i]) w → ld1 (.pointer (some ⟨b, q, none⟩)) K' w) → K (.pointer (some ⟨b, q, none⟩)) w) : ixs 1 v (.int .i64 i) K w := by
  rcases h with ⟨rfl, rfl⟩ | ⟨a, cap, rfl, rfl⟩ | ⟨b, o, cap, rfl, _, _, hc⟩
  · simp at hi
  · simp at hi
  · refine ⟨⟨by omega, by omega⟩, ?_⟩
    have ej : ((i : Int)).toNat = i := by omega
    rw [ej, add_mk, Nat.mul_one]
    exact hK b (o + i) fun K' hk => hc.ld1 (by rw [List.getElem?_map, List.getElem?_eq_getElem hi]; rfl) hk
theorem fst_0 {a : Addr} {n m cap : Nat} {k : List Value → Prop} (hk : k []) : fst' n 0 (.slice (some a) m cap) w k := by
  show Go.Sh.ldc a w 0 (0 * n) k
  rw [Nat.zero_mul]; exact hk
theorem Vs.fst (h : Vs f w v xs) {n : Nat} (hn : n = xs.length) {k : List Value → Prop} (hk : k (xs.map f)) : fst' 1 n v w k := by
  subst hn
  rcases h with ⟨rfl, rfl⟩ | ⟨a, cap, rfl, rfl⟩ | ⟨b, o, cap, rfl, _, _, hc⟩
  · exact ⟨rfl, hk⟩
  · exact fst_0 hk
  · show ldc _ _ 0 (xs.length * 1) k
    rw [Nat.mul_one]
    exact hc.ldc xs.length 0 k (by rw [List.length_map]; omega) (by rw [List.drop_zero]; exact hk)
theorem vs_row {t : TypeId} {b cap : Nat} {junk : List Value} (hr : Row w b t (xs.map f ++ junk)) (hc : xs.length ≤ cap) (hl : xs.length ≤ 9223372036854775807) : Vs f w (.slice (some ⟨b, 0, none⟩) xs.length cap) xs := by
  refine .inr <| .inr ⟨b, 0, cap, rfl, hc, hl, ?_⟩
  intro j hj
  rw [hr.cell, Nat.zero_add, List.getElem?_append_left hj]
theorem vs_nil : Vs f w (.slice none 0 0) [] := .inl ⟨rfl, rfl⟩
/-- a part of a block -/
theorem vs_part {t : TypeId} {b o n cap : Nat} {L : List α} (hr : Row w b t (L.map f)) (hn : o + n ≤ L.length) (hc : n ≤ cap) (hl : n ≤ 9223372036854775807) : Vs f w (.slice (some ⟨b, o, none⟩) n cap) ((L.drop o).take n) := by
  have hlen : ((L.drop o).take n).length = n := by rw [List.length_take, List.length_drop]; omega
  refine .inr <| .inr ⟨b, o, cap, by rw [hlen], by omega, by omega, ?_⟩
  intro j hj
  rw [List.length_map, hlen] at hj
  rw [hr.cell, List.getElem?_map, List.getElem?_map, List.getElem?_take_of_lt (by omega), List.getElem?_drop]
/-- copy of equal lengths -/
theorem cp_r {t : TypeId} {b o n cap : Nat} {L : List Value} (hr : Row w b t L) (hs : Vs f w v xs) (hn : xs.length = n) (ho : o + n ≤ L.length) (hf : ∀ x, scal (f x) = true)
    (hK : ∀ w1, Row w1 b t (L.take o ++ (xs.map f ++ L.drop (o + n))) → Kp (fun k => k = b) w w1 → w1.heap.size = w.heap.size → K (.int .i64 ((n : Nat) : Int)) w1) : cpq 1 (.slice (some ⟨b, o, none⟩) n cap) v K w := by
  subst hn
  have hall : (xs.map f).all scal = true := by rw [List.all_eq_true]; intro y hy; rw [List.mem_map] at hy; obtain ⟨x, _, rfl⟩ := hy; exact hf x
  have key : fst' 1 xs.length v w (fun vs => stc ⟨b, o, none⟩ 0 vs (fun w' => K (.int .i64 ((xs.length : Nat) : Int)) w') w) := by
    refine hs.fst rfl ?_
    refine stc_r (xs.map f) 0 w L hr (by rw [List.length_map]; omega) hall fun w1 r1 hk1 hz1 => ?_
    rw [List.length_map, Nat.add_zero] at r1
    exact hK w1 r1 hk1 hz1
  rcases hs with ⟨rfl, rfl⟩ | ⟨a', cap', rfl, rfl⟩ | ⟨b', o', cap', rfl, h1, h2, hc⟩
  · exact key
  · exact key
  · have e : min xs.length xs.length = xs.length := Nat.min_self _
    unfold cpq
    simp only [e]
    exact key
/-- the block of a slice that shows something -/
theorem Vs.lt (h : Vs f w v xs) {b o n c : Nat} (h0 : 0 < xs.length) (e : v = .slice (some ⟨b, o, none⟩) n c) : b < w.heap.size := by
  rcases h with ⟨rfl, rfl⟩ | ⟨a', cap', rfl, rfl⟩ | ⟨b', o', cap', rfl, h1, h2, hc⟩
  · simp at h0
  · simp at h0
  · cases e
    have := hc 0 (by rw [List.length_map]; omega)
    rw [List.getElem?_eq_getElem (by rw [List.length_map]; omega)] at this
    rcases Nat.lt_or_ge b w.heap.size with h' | h'
    · exact h'
    · simp [World.cell?, Array.getElem?_eq_none h'] at this
/-- a fresh copy: append([]T{}, x...) -/
theorem ap_copy {e : TypeId} {z : Value} {by_ : Nat} (hs : Vs f w v xs) (hsz : xs.length * by_ ≤ 140737488355328) (hl : xs.length < 9223372036854775808)
    (hK : ∀ w' v' b cap junk, v' = .slice (some ⟨b, 0, none⟩) xs.length cap → xs.length ≤ cap → w.heap.size ≤ b → Row w' b e (xs.map f ++ junk) → junk.length = cap - xs.length → Kp (fun _ => False) w w' → K v' w') :
    bsq e [z] 0 [] (fun t w => apq e [z] by_ t v K w) w := by
  refine bsq_r (l := []) (by simp [zrep, fillL]) fun w1 r1 hk1 hz1 => ?_
  have hs1 := hs.kp' hk1
  have main : ∀ xb xc, v = .slice xb xs.length xc → apq e [z] by_ (.slice (some ⟨w.heap.size, 0, none⟩) 0 0) v K w1 := by
    intro xb xc hv
    subst hv
    refine ⟨by simpa using hsz, by omega, fun q => ?_, fun q => ?_⟩
    · have h0 : xs = [] := List.eq_nil_of_length_eq_zero (by omega)
      subst h0
      refine hs1.fst rfl ?_
      exact hK w1 _ w.heap.size 0 [] rfl (Nat.le_refl _) (Nat.le_refl _) r1 rfl hk1
    · refine fst_0 ?_
      refine hs1.fst rfl ?_
      intro c hc
      refine hK _ _ w1.heap.size c (zrep [z] ((c - (0 + xs.length)) * 1)) (by rw [Nat.zero_add]) (by omega) (by omega) ?_ (by simp [zrep]) ((hk1.trans kp_drw).trans (kp_alloc _))
      exact Row.new (drw w1) e _
  rcases hs with ⟨rfl, rfl⟩ | ⟨a', cap', rfl, rfl⟩ | ⟨b', o', cap', rfl, h1, h2, hc⟩
  · exact main _ _ rfl
  · exact main _ _ rfl
  · exact main _ _ rfl
end
end Go.Sh
