/-
  the leaves of a struct argument, and cells in memory.
-/
import Derived.Test.Qxb6500896aGreatDoorShTZ
namespace Go.Sh
open Go.RowKit
set_option linter.unusedVariables false
set_option linter.unusedSimpArgs false

/-- these cells lie at this place -/
def Cells (w : World) (b o : Nat) (xs : List Value) : Prop := ∀ j, j < xs.length → w.cell? ⟨b, o + j, none⟩ = xs[j]?

section
variable {W w w' : World} {b o : Nat} {xs : List Value} {K : Value → World → Prop}
theorem Cells.ld1 (h : Cells w b o xs) {j : Nat} {v : Value} (hv : xs[j]? = some v) (hk : K v w) : Go.Sh.ld1 (.pointer (some ⟨b, o + j, none⟩)) K w := by
  have hj : j < xs.length := by
    rcases Nat.lt_or_ge j xs.length with q | q
    · exact q
    · rw [List.getElem?_eq_none q] at hv; cases hv
  exact ⟨v, by rw [h j hj]; exact hv, hk⟩
theorem Cells.ld0 (h : Cells w b o xs) {v : Value} (hv : xs[0]? = some v) (hk : K v w) : Go.Sh.ld1 (.pointer (some ⟨b, o, none⟩)) K w := h.ld1 (j := 0) hv hk
theorem Cells.ldc (h : Cells w b o xs) : ∀ (n i : Nat) (k : List Value → Prop), i + n = xs.length → k (xs.drop i) → Go.Sh.ldc ⟨b, o, none⟩ w i n k
  | 0, i, k, hn, hk => by
    have : xs.drop i = [] := by rw [List.drop_eq_nil_iff]; omega
    rw [this] at hk; exact hk
  | n + 1, i, k, hn, hk => by
    have hi : i < xs.length := by omega
    refine ⟨xs[i], by rw [add_mk, h i hi, List.getElem?_eq_getElem hi], Cells.ldc h n (i + 1) _ (by omega) ?_⟩
    rw [List.getElem_cons_drop]; exact hk
theorem Cells.ldn (h : Cells w b o xs) {n : Nat} (hn : xs.length = n) (hk : K (.agg xs.toArray) w) : Go.Sh.ldn n (.pointer (some ⟨b, o, none⟩)) K w := by
  subst hn
  exact ⟨h.ldc xs.length 0 _ (by omega) hk⟩
theorem Cells.sub (h : Cells w b o xs) (i n : Nat) (hi : i + n ≤ xs.length) : Cells w b (o + i) ((xs.drop i).take n) := by
  intro j hj
  rw [List.length_take, List.length_drop] at hj
  rw [Nat.add_assoc, h (i + j) (by omega), List.getElem?_take_of_lt (by omega), List.getElem?_drop]
theorem Cells.kp {S : Nat → Prop} (h : Cells w b o xs) (hk : Kp S w w') (hb : ¬ S b) : Cells w' b o xs := by
  intro j hj
  have h1 := h j hj
  rw [List.getElem?_eq_getElem hj] at h1 ⊢
  have hlt : b < w.heap.size := by
    rcases Nat.lt_or_ge b w.heap.size with h' | h'
    · exact h'
    · simp [World.cell?, Array.getElem?_eq_none h'] at h1
  unfold World.cell? at *
  rw [hk.block _ hlt hb]; exact h1
theorem Cells.kp' (h : Cells w b o xs) (hk : Kp (fun _ => False) w w') : Cells w' b o xs := h.kp hk (fun h => h)
theorem Cells.below (h : Cells W b o xs) (hb : Below W.heap.size W w) : Cells w b o xs := by
  intro j hj
  have h1 := h j hj
  rw [List.getElem?_eq_getElem hj] at h1 ⊢
  exact cell_below hb h1
theorem Row.cells {t : TypeId} {l : List Value} {n : Nat} (h : Row w b t l) (hl : o + n ≤ l.length) : Cells w b o ((l.drop o).take n) := by
  intro j hj
  rw [List.length_take, List.length_drop] at hj
  rw [h.cell, List.getElem?_take_of_lt (by omega), List.getElem?_drop]
theorem Row.cells0 {t : TypeId} {l : List Value} (h : Row w b t l) : Cells w b 0 l := by
  intro j hj
  rw [h.cell, Nat.zero_add]
theorem cells_in {a : Addr} {n : Nat} {ds : List Value} (h : W.cells? 0 a n = some ds) (hn : 0 < n) : ∃ b o, a = ⟨b, o, none⟩ ∧ ds.length = n ∧ Cells W b o ds := by
  obtain ⟨_, hl, hc⟩ := World.cells?_some h
  obtain ⟨b, o, sp⟩ := a
  have h0 := hc 0 (by omega)
  rw [List.getElem?_eq_getElem (by omega)] at h0
  have hspot : sp = none := by simpa [Addr.add] using World.cell?_spot h0
  subst hspot
  refine ⟨b, o, rfl, hl, fun j hj => ?_⟩
  rw [← add_mk]
  exact hc j (by omega)
end

/-! ### leaves -/
def leafFs (P : Program) (r : TypeId → Option (List TypeId)) : List Field → Nat → Option (List TypeId)
  | [], _ => some []
  | f :: fs, o =>
    match r f.type with
    | some ls => bif Nat.beq f.offset o && Nat.beq (P.cellsOf f.type) ls.length then
        match leafFs P r fs (o + ls.length) with
        | some rest => some (ls ++ rest)
        | none => none
      else none
    | none => none

def leafTs (P : Program) : Nat → TypeId → Option (List TypeId)
  | 0, _ => none
  | g + 1, t =>
    match P.underlying t with
    | some .bool => some [t]
    | some (.int _) => some [t]
    | some .string => some [t]
    | some (.slice _) => some [t]
    | some (.struct fs) => match leafFs P (leafTs P g) fs.toList 0 with
      | some ls => bif Nat.beq (P.cellsOf t) ls.length then some ls else none
      | none => none
    | _ => none

theorem leafFs_ok {P : Program} {W : World} {R : Nat} {g : Nat} {r : TypeId → Option (List TypeId)} {cs : List Value}
    (hr : ∀ t ls, r t = some ls → ∀ cs, TZ P W R g t cs → cs.length = ls.length ∧ ∀ (i : Nat) (t' : TypeId), ls[i]? = some t' → ∃ g' v, cs[i]? = some v ∧ scal v = true ∧ g' ≤ g ∧ TZ P W R g' t' [v]) :
    ∀ (fs : List Field) (o : Nat) (ls : List TypeId), leafFs P r fs o = some ls → (∀ f ∈ fs, TZ P W R g f.type ((cs.drop f.offset).take (P.cellsOf f.type))) →
      ∀ (i : Nat) (t' : TypeId), ls[i]? = some t' → ∃ g' v, cs[o + i]? = some v ∧ scal v = true ∧ g' ≤ g ∧ TZ P W R g' t' [v]
  | [], o, ls, h, _, i, t', hi => by
    simp only [leafFs, Option.some.injEq] at h
    subst h
    simp at hi
  | f :: fs, o, ls, h, hf, i, t', hi => by
    simp only [leafFs] at h
    split at h
    · rename_i l0 hl0
      cases hc : (Nat.beq f.offset o && Nat.beq (P.cellsOf f.type) l0.length) with
      | false => rw [hc] at h; cases h
      | true =>
        rw [hc] at h
        simp only [cond_true] at h
        simp only [Bool.and_eq_true] at hc
        have ho := Nat.eq_of_beq_eq_true hc.1
        have hs := Nat.eq_of_beq_eq_true hc.2
        split at h
        · rename_i rest hrest
          simp only [Option.some.injEq] at h
          subst h
          have h0 := hr f.type l0 hl0 _ (hf f (List.mem_cons_self ..))
          rcases Nat.lt_or_ge i l0.length with q | q
          · rw [List.getElem?_append_left q] at hi
            obtain ⟨g', v, hv, h1, h2, h3⟩ := h0.2 i t' hi
            refine ⟨g', v, ?_, h1, h2, h3⟩
            rw [List.getElem?_take_of_lt (by omega), List.getElem?_drop, ho] at hv
            exact hv
          · rw [List.getElem?_append_right q] at hi
            obtain ⟨g', v, hv, h1, h2, h3⟩ := leafFs_ok hr fs (o + l0.length) rest hrest (fun x hx => hf x (List.mem_cons_of_mem _ hx)) _ _ hi
            refine ⟨g', v, ?_, h1, h2, h3⟩
            rw [show o + l0.length + (i - l0.length) = o + i by omega] at hv
            exact hv
        · cases h
    · cases h

theorem leafTs_ok {P : Program} {W : World} {R : Nat} : ∀ (d : Nat) (t : TypeId) (ls : List TypeId), leafTs P d t = some ls → ∀ (g : Nat) (cs : List Value), TZ P W R g t cs →
    cs.length = ls.length ∧ ∀ (i : Nat) (t' : TypeId), ls[i]? = some t' → ∃ g' v, cs[i]? = some v ∧ scal v = true ∧ g' ≤ g ∧ TZ P W R g' t' [v] := by
  intro d
  induction d with
  | zero => intro t ls h; simp [leafTs] at h
  | succ d ih =>
    intro t ls h g cs hv
    have one : ∀ v, cs = [v] → scal v = true → ls = [t] → cs.length = ls.length ∧ ∀ (i : Nat) (t' : TypeId), ls[i]? = some t' → ∃ g' v, cs[i]? = some v ∧ scal v = true ∧ g' ≤ g ∧ TZ P W R g' t' [v] := by
      intro v e hs hl
      subst e hl
      refine ⟨rfl, fun i t' hi => ?_⟩
      cases i with
      | zero =>
        have : t = t' := by simpa using hi
        subst this
        exact ⟨g, v, rfl, hs, Nat.le_refl _, hv⟩
      | succ i => simp at hi
    simp only [leafTs] at h
    split at h
    · rename_i hu
      obtain ⟨b, e⟩ := tz_bool hu hv
      exact one _ e rfl (by simpa using h.symm)
    · rename_i k hu
      obtain ⟨n, e, _⟩ := tz_int hu hv
      exact one _ e rfl (by simpa using h.symm)
    · rename_i hu
      obtain ⟨s, e, _⟩ := tz_string hu hv
      exact one _ e rfl (by simpa using h.symm)
    · rename_i el hu
      rcases tz_slice hu hv with e | ⟨a, len, cap, g2, e, _⟩
      · exact one _ e rfl (by simpa using h.symm)
      · exact one _ e rfl (by simpa using h.symm)
    · rename_i fs hu
      split at h
      · rename_i l0 hl0
        cases hc : Nat.beq (P.cellsOf t) l0.length with
        | false => rw [hc] at h; cases h
        | true =>
          rw [hc] at h
          simp only [cond_true, Option.some.injEq] at h
          subst h
          obtain ⟨g2, rfl, hl, hf⟩ := tz_struct hu hv
          refine ⟨by rw [hl]; exact Nat.eq_of_beq_eq_true hc, fun i t' hi => ?_⟩
          obtain ⟨g', v, h1, h2, h3, h4⟩ := leafFs_ok (fun t ls hr cs hcs => ih t ls hr g2 cs hcs) fs.toList 0 l0 hl0 hf i t' hi
          rw [Nat.zero_add] at h1
          exact ⟨g', v, h1, h2, by omega, h4⟩
      · cases h
    · cases h
end Go.Sh
