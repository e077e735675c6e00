/-
  Rows of memory.
-/
import Derived.Test.Qxb6500896aGreatDoorShTr
namespace Go.Sh
open Go.RowKit
set_option linter.unusedVariables false
set_option linter.unusedSimpArgs false

/-- block b holds these cells, none of them frozen -/
def Row (w : World) (b : Nat) (t : TypeId) (l : List Value) : Prop := w.heap[b]? = some (.cells l.toArray t (0, 0))

theorem add_mk (b o n : Nat) : (⟨b, o, none⟩ : Addr).add n = ⟨b, o + n, none⟩ := by
  unfold Addr.add
  split
  · rename_i h; subst h; rfl
  · rfl

section
variable {w w' : World} {b : Nat} {t : TypeId} {l : List Value}

theorem Row.lt (h : Row w b t l) : b < w.heap.size := by
  unfold Row at h
  rcases Nat.lt_or_ge b w.heap.size with h' | h'
  · exact h'
  · rw [Array.getElem?_eq_none h'] at h; cases h
theorem Row.cell (h : Row w b t l) (i : Nat) : w.cell? ⟨b, i, none⟩ = l[i]? := by
  unfold Row at h
  simp [World.cell?, h]
theorem Row.frozen (h : Row w b t l) (i : Nat) : w.frozen? ⟨b, i, none⟩ = false := by
  unfold Row at h
  simp [World.frozen?, h]
theorem Row.new (w : World) (t : TypeId) (l : List Value) : Row (w.alloc (.cells l.toArray t)) w.heap.size t l := by
  unfold Row World.alloc
  rw [Array.getElem?_push_size]
theorem Row.new' (w : World) (t : TypeId) (a : Array Value) : Row (w.alloc (.cells a t)) w.heap.size t a.toList := by
  unfold Row World.alloc
  rw [Array.getElem?_push_size]
theorem Row.alloc (h : Row w b t l) (o : Obj) : Row (w.alloc o) b t l := by
  have := h.lt
  unfold Row at *
  simp only [World.alloc]
  rw [Array.getElem?_push_lt (by omega)]
  rw [← h, Array.getElem?_eq_getElem this]
theorem Row.set (h : Row w b t l) (i : Nat) (v : Value) : Row (w.setCell ⟨b, i, none⟩ v) b t (l.set i v) := by
  unfold Row at *
  simp only [World.setCell, Array.getElem?_modify, if_pos, h, Option.map_some]
  simp
theorem Row.set_ne (h : Row w b t l) {a : Addr} (hne : a.block ≠ b) (v : Value) : Row (w.setCell a v) b t l := by
  unfold Row at *
  simp only [World.setCell, Array.getElem?_modify]
  rw [if_neg hne]
  exact h
theorem Row.drw (h : Row w b t l) : Row (drw w) b t l := h
theorem Row.undrw (h : Row (Sh.drw w) b t l) : Row w b t l := h
theorem Row.below {B : Nat} (h : Row w b t l) (hb : Below B w w') (hlt : b < B) : Row w' b t l := by
  unfold Row at *
  rw [hb.block b hlt]; exact h
theorem Row.ext (h : Row w b t l) (hb : Below w.heap.size w w') : Row w' b t l := h.below hb h.lt

@[simp] theorem drw_heap : (Sh.drw w).heap = w.heap := rfl
@[simp] theorem drw_cell (a : Addr) : (Sh.drw w).cell? a = w.cell? a := rfl
@[simp] theorem drw_frozen (a : Addr) : (Sh.drw w).frozen? a = w.frozen? a := rfl
theorem below_drw {B : Nat} : Below B w (Sh.drw w) := ⟨rfl, rfl, rfl, Nat.le_refl _, fun _ _ => rfl⟩
theorem below_drw' {B : Nat} (h : Below B w w') : Below B w (Sh.drw w') := h.trans below_drw
theorem below_alloc {B : Nat} (h : Below B w w') (hB : B ≤ w'.heap.size) (o : Obj) : Below B w (w'.alloc o) := h.alloc hB o
theorem below_set {B : Nat} (h : Below B w w') {a : Addr} (ha : B ≤ a.block) (v : Value) : Below B w (w'.setCell a v) := h.setCell ha v
end

/-- what was there is as it was, but for the blocks in S -/
structure Kp (S : Nat → Prop) (w w' : World) : Prop where
  os : w'.os = w.os
  tape : w'.tape = w.tape
  output : w'.output = w.output
  size : w.heap.size ≤ w'.heap.size
  block : ∀ k, k < w.heap.size → ¬ S k → w'.heap[k]? = w.heap[k]?

section
variable {S T : Nat → Prop} {w w' w'' : World} {b : Nat} {t : TypeId} {l : List Value}
theorem Kp.refl (S : Nat → Prop) (w : World) : Kp S w w := ⟨rfl, rfl, rfl, Nat.le_refl _, fun _ _ _ => rfl⟩
theorem Kp.trans (h : Kp S w w') (h' : Kp S w' w'') : Kp S w w'' :=
  ⟨h'.os.trans h.os, h'.tape.trans h.tape, h'.output.trans h.output, Nat.le_trans h.size h'.size, fun k hk hn => (h'.block k (Nat.lt_of_lt_of_le hk h.size) hn).trans (h.block k hk hn)⟩
theorem Kp.then (h : Kp S w w') (h' : Kp T w' w'') (hT : ∀ k, k < w.heap.size → T k → S k) : Kp S w w'' :=
  ⟨h'.os.trans h.os, h'.tape.trans h.tape, h'.output.trans h.output, Nat.le_trans h.size h'.size, fun k hk hn => (h'.block k (Nat.lt_of_lt_of_le hk h.size) (fun ht => hn (hT k hk ht))).trans (h.block k hk hn)⟩
theorem Kp.mono (h : Kp S w w') (hs : ∀ k, k < w.heap.size → S k → T k) : Kp T w w' := ⟨h.os, h.tape, h.output, h.size, fun k hk hn => h.block k hk (fun hS => hn (hs k hk hS))⟩
theorem Kp.none (h : Kp (fun _ => False) w w') : Kp S w w' := h.mono (fun _ _ h => h.elim)
theorem Kp.row (h : Kp S w w') (hr : Row w b t l) (hn : ¬ S b) : Row w' b t l := by have := hr.lt; unfold Row at *; rw [h.block b this hn]; exact hr
theorem Kp.row' (h : Kp (fun _ => False) w w') (hr : Row w b t l) : Row w' b t l := h.row hr (fun h => h)
theorem Kp.below (h : Kp S w w') {B : Nat} (hB : B ≤ w.heap.size) (hs : ∀ k, k < B → ¬ S k) : Below B w w' :=
  ⟨h.os, h.tape, h.output, h.size, fun k hk => h.block k (Nat.lt_of_lt_of_le hk hB) (hs k hk)⟩
theorem Kp.below' (h : Kp (fun _ => False) w w') : Below w.heap.size w w' := h.below (Nat.le_refl _) (fun _ _ h => h)
theorem kp_of_below (h : Below w.heap.size w w') : Kp S w w' := ⟨h.os, h.tape, h.output, h.size, fun k hk _ => h.block k hk⟩
theorem kp_drw : Kp S w (Sh.drw w) := ⟨rfl, rfl, rfl, Nat.le_refl _, fun _ _ _ => rfl⟩
theorem Kp.drw (h : Kp S w w') : Kp S w (Sh.drw w') := h.trans kp_drw
theorem Kp.undrw (h : Kp S (Sh.drw w) w') : Kp S w w' := ⟨h.os, h.tape, h.output, h.size, h.block⟩
theorem kp_alloc (o : Obj) : Kp S w (w.alloc o) := kp_of_below ((Below.refl _ _).alloc (Nat.le_refl _) _)
theorem kp_set {a : Addr} (v : Value) (ha : S a.block) : Kp S w (w.setCell a v) :=
  ⟨rfl, rfl, rfl, by simp, fun k hk hn => by
    simp only [World.setCell, Array.getElem?_modify]
    rw [if_neg (fun e : a.block = k => hn (e ▸ ha))]⟩
end

/-! rules -/
section
variable {w : World} {b o : Nat} {t : TypeId} {l : List Value} {K : Value → World → Prop}
theorem nw_r {a : Array Value} (h : ∀ w1, Row w1 w.heap.size t a.toList → Kp (fun _ => False) w w1 → w1.heap.size = w.heap.size + 1 → K (.pointer (some ⟨w.heap.size, 0, none⟩)) w1) : nw t a K w :=
  ⟨h _ (Row.new' w t a) (kp_alloc _) (by simp)⟩
theorem ld1_r {v : Value} (h : Row w b t l) (hv : l[o]? = some v) (hk : K v w) : ld1 (.pointer (some ⟨b, o, none⟩)) K w := ⟨v, by rw [h.cell]; exact hv, hk⟩
theorem ldc_r (h : Row w b t l) : ∀ (n i : Nat) (k : List Value → Prop), o + i + n ≤ l.length → k ((l.drop (o + i)).take n) → ldc ⟨b, o, none⟩ w i n k
  | 0, i, k, _, hk => by simpa [ldc] using hk
  | n + 1, i, k, hl, hk => by
    refine ⟨l[o + i]'(by omega), ?_, ldc_r h n (i + 1) _ (by omega) ?_⟩
    · rw [add_mk, h.cell, List.getElem?_eq_getElem (by omega)]
    · rw [List.drop_eq_getElem_cons (by omega : o + i < l.length), List.take_succ_cons] at hk
      exact hk
theorem ldn_r {n : Nat} (h : Row w b t l) (hl : o + n ≤ l.length) (hk : K (.agg ((l.drop o).take n).toArray) w) : ldn n (.pointer (some ⟨b, o, none⟩)) K w :=
  ⟨ldc_r h n 0 _ (by omega) hk⟩
theorem st1_r {x : Value} {k : World → Prop} (h : Row w b t l) (ho : o < l.length) (hx : scal x = true)
    (hk : ∀ w1, Row w1 b t (l.set o x) → Kp (fun k => k = b) w w1 → w1.heap.size = w.heap.size → k w1) : st1 (.pointer (some ⟨b, o, none⟩)) x k w :=
  ⟨by rw [h.cell, List.getElem?_eq_getElem ho]; rfl, h.frozen o, hx, hk _ (h.set o x) (kp_set x rfl) (by simp)⟩
theorem stc_r {k : World → Prop} : ∀ (vs : List Value) (i : Nat) (w : World) (l : List Value), Row w b t l → o + i + vs.length ≤ l.length → vs.all scal = true →
    (∀ w1, Row w1 b t (l.take (o + i) ++ (vs ++ l.drop (o + i + vs.length))) → Kp (fun k => k = b) w w1 → w1.heap.size = w.heap.size → k w1) → stc ⟨b, o, none⟩ i vs k w
  | [], i, w, l, h, hl, _, hk => hk w (by simpa using h) (Kp.refl _ _) rfl
  | v :: vs, i, w, l, h, hl, hs, hk => by
    simp only [List.length_cons] at hl
    simp only [List.all_cons, Bool.and_eq_true] at hs
    have hlt : o + i < l.length := by omega
    refine ⟨by rw [add_mk, h.cell, List.getElem?_eq_getElem hlt]; rfl, by rw [add_mk]; exact h.frozen _, hs.1, ?_⟩
    rw [add_mk]
    refine stc_r vs (i + 1) _ _ (h.set (o + i) v) (by simp; omega) hs.2 (fun w1 h1 hk1 hz => ?_)
    refine hk w1 ?_ (Kp.trans (kp_set (S := fun k => k = b) v rfl) hk1) (by rw [hz]; simp)
    have e1 : List.take (o + (i + 1)) (l.set (o + i) v) = List.take (o + i) l ++ [v] := by
      rw [show o + (i + 1) = (o + i) + 1 by omega, List.take_succ_eq_append_getElem (by simp; omega)]
      simp [List.take_set_of_le]
    have e2 : List.drop (o + (i + 1) + vs.length) (l.set (o + i) v) = List.drop (o + i + (v :: vs).length) l := by
      rw [List.drop_set_of_lt (by omega)]
      congr 1
      simp; omega
    rw [e1, e2] at h1
    simpa using h1
theorem stn_r {n : Nat} {cs : List Value} {k : World → Prop} (h : Row w b t l) (hn : cs.length = n) (hl : o + n ≤ l.length) (hs : cs.all scal = true)
    (hk : ∀ w1, Row w1 b t (l.take o ++ (cs ++ l.drop (o + n))) → Kp (fun k => k = b) w w1 → w1.heap.size = w.heap.size → k w1) : stn n (.pointer (some ⟨b, o, none⟩)) (.agg cs.toArray) k w := by
  subst hn
  exact ⟨⟨by simp, stc_r cs 0 w l h (by omega) hs hk⟩⟩
end

end Go.Sh
