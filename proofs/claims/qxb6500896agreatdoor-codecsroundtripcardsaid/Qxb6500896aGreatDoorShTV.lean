/-
  Qxb6500896aGreatDoorShTV: own work. What the arguments that come in look like in memory ('TV'), got from the rows' own reading 'DataW.trod'; rules to read them.
-/
import Derived.Test.Qxb6500896aGreatDoorShSimp
import Derived.ChangeArms
import Derived.ChangeOld
namespace Go.Sh
open Go.RowKit
set_option linter.unusedVariables false
set_option linter.unusedSimpArgs false

/-- the cells of a value of a type, and what they lead to -/
def TV (P : Program) (W : World) : Nat → TypeId → List Value → Prop
  | 0, _, _ => False
  | f + 1, t, cs =>
    match P.underlying t with
    | some .bool => ∃ b, cs = [.bool b]
    | some (.int k) => ∃ n, cs = [.int k n] ∧ (Lit.int k n).wf = true
    | some .string => ∃ s : ByteArray, cs = [.string s] ∧ s.size ≤ maxLen
    | some (.slice e) => cs = [.slice none 0 0] ∨ ∃ (a : Addr) (len cap : Nat), cs = [.slice (some a) len cap] ∧ len ≤ cap ∧ cap ≤ maxLen ∧
        ∀ i, i < len → ∃ ds, W.cells? 0 (a.add (i * P.cellsOf e)) (P.cellsOf e) = some ds ∧ TV P W f e ds
    | some (.struct fs) => cs.length = P.cellsOf t ∧ ∀ fl ∈ fs.toList, TV P W f fl.type ((cs.drop fl.offset).take (P.cellsOf fl.type))
    | some (.array n e) => cs.length = P.cellsOf t ∧ ∀ i, i < n → TV P W f e ((cs.drop (i * P.cellsOf e)).take (P.cellsOf e))
    | _ => True

theorem tv_of_trod {H : Type} {enc : TypeId × Value → H} {P : Program} {W : World} {spare : Nat → Bool} {held : Bool} :
    ∀ (f : Nat) (t : TypeId) (cs : List Value) (x : DataW H × List MemPlace), DataW.trod enc P W 0 spare held f t cs = some x → TV P W f t cs := by
  intro f
  induction f with
  | zero => intro t cs x h; simp [DataW.trod] at h
  | succ f ih =>
    intro t cs x h
    unfold TV
    split
    · rename_i hu; obtain ⟨b, e, _⟩ := DataW.trod_bool hu h; exact ⟨b, e⟩
    · rename_i k hu; obtain ⟨n, e, _, hw⟩ := DataW.trod_int hu h; exact ⟨n, e, hw⟩
    · rename_i hu; obtain ⟨s, e, _, hw⟩ := DataW.trod_string hu h; exact ⟨s, e, hw⟩
    · rename_i e hu
      rcases DataW.trod_slice hu h with ⟨e, _⟩ | ⟨a, len, cap, elems, rest, n, en, ecs, ex, hb, hl, hm, hlen, hel, _, _⟩
      · exact .inl e
      · refine .inr ⟨a, len, cap, ecs, hl, hm, fun i hi => ?_⟩
        cases en
        have := hel i hi
        rw [List.getElem?_eq_getElem (by omega)] at this
        obtain ⟨ds, h1, h2⟩ := Option.bind_eq_some_iff.1 this
        exact ⟨ds, h1, ih _ _ _ h2⟩
    · rename_i fs hu
      obtain ⟨xs, n, en, ex, hl, hxl, hf⟩ := DataW.trod_struct hu h
      cases en
      refine ⟨hl, fun fl hfl => ?_⟩
      obtain ⟨i, hi, e⟩ := List.getElem_of_mem hfl
      simp only [Array.length_toList, Array.getElem_toList] at hi e
      have := hf i fl (by rw [Array.getElem?_eq_getElem hi, e])
      rw [List.getElem?_eq_getElem (by omega)] at this
      exact ih _ _ _ this
    · rename_i n e hu
      unfold DataW.trod at h
      rw [hu] at h
      split at h <;> simp_all
      obtain ⟨hl, xs, hp, hd⟩ := h
      intro i hi
      have h2 := mapM_some_get hp i i (by simp [hi])
      have h3 := mapM_some_length hp
      rw [List.getElem?_eq_getElem (by simp at h3; omega)] at h2
      exact ih _ _ _ _ h2
    · trivial

section
variable {P : Program} {W w : World} {f : Nat} {t e : TypeId} {cs : List Value}
theorem tv_bool (hu : P.underlying t = some .bool) (h : TV P W f t cs) : ∃ b, cs = [.bool b] := by
  cases f with
  | zero => exact h.elim
  | succ f => unfold TV at h; rw [hu] at h; exact h
theorem tv_int {k : IntKind} (hu : P.underlying t = some (.int k)) (h : TV P W f t cs) : ∃ n, cs = [.int k n] ∧ (Lit.int k n).wf = true := by
  cases f with
  | zero => exact h.elim
  | succ f => unfold TV at h; rw [hu] at h; exact h
theorem tv_string (hu : P.underlying t = some .string) (h : TV P W f t cs) : ∃ s : ByteArray, cs = [.string s] ∧ s.size ≤ maxLen := by
  cases f with
  | zero => exact h.elim
  | succ f => unfold TV at h; rw [hu] at h; exact h
theorem tv_slice (hu : P.underlying t = some (.slice e)) (h : TV P W f t cs) : cs = [.slice none 0 0] ∨ ∃ (a : Addr) (len cap g : Nat), cs = [.slice (some a) len cap] ∧ f = g + 1 ∧ len ≤ cap ∧ cap ≤ maxLen ∧
        ∀ i, i < len → ∃ ds, W.cells? 0 (a.add (i * P.cellsOf e)) (P.cellsOf e) = some ds ∧ TV P W g e ds := by
  cases f with
  | zero => exact h.elim
  | succ f =>
    unfold TV at h; rw [hu] at h
    rcases h with h | ⟨a, len, cap, h1, h2, h3, h4⟩
    · exact .inl h
    · exact .inr ⟨a, len, cap, f, h1, rfl, h2, h3, h4⟩
theorem tv_struct {fs : Array Field} (hu : P.underlying t = some (.struct fs)) (h : TV P W f t cs) :
    ∃ g, f = g + 1 ∧ cs.length = P.cellsOf t ∧ ∀ fl ∈ fs.toList, TV P W g fl.type ((cs.drop fl.offset).take (P.cellsOf fl.type)) := by
  cases f with
  | zero => exact h.elim
  | succ f => unfold TV at h; rw [hu] at h; exact ⟨f, rfl, h⟩
theorem tv_array {n : Nat} (hu : P.underlying t = some (.array n e)) (h : TV P W f t cs) :
    ∃ g, f = g + 1 ∧ cs.length = P.cellsOf t ∧ ∀ i, i < n → TV P W g e ((cs.drop (i * P.cellsOf e)).take (P.cellsOf e)) := by
  cases f with
  | zero => exact h.elim
  | succ f => unfold TV at h; rw [hu] at h; exact ⟨f, rfl, h⟩

/-- a cell of the old memory, read later -/
theorem cell_below {a : Addr} {v : Value} (hb : Below W.heap.size W w) (h : W.cell? a = some v) : w.cell? a = some v := by
  have hlt : a.block < W.heap.size := by
    rcases Nat.lt_or_ge a.block W.heap.size with h' | h'
    · exact h'
    · simp [World.cell?, Array.getElem?_eq_none h'] at h
  unfold World.cell? at *
  rw [hb.block _ hlt]; exact h
theorem ldc_cells {a : Addr} {ds : List Value} (hb : Below W.heap.size W w) (h : ∀ i, i < ds.length → W.cell? (a.add i) = ds[i]?) : ∀ (n i : Nat) (k : List Value → Prop), i + n = ds.length → k (ds.drop i) → ldc a w i n k
  | 0, i, k, hn, hk => by
    have : ds.drop i = [] := by rw [List.drop_eq_nil_iff]; omega
    rw [this] at hk; exact hk
  | n + 1, i, k, hn, hk => by
    have hi : i < ds.length := by omega
    refine ⟨ds[i], cell_below hb (by rw [h i hi, List.getElem?_eq_getElem hi]), ldc_cells hb h n (i + 1) _ (by omega) ?_⟩
    rw [List.getElem_cons_drop]; exact hk
theorem ldn_in {a : Addr} {ds : List Value} {n : Nat} {K : Value → World → Prop} (hb : Below W.heap.size W w) (h : W.cells? 0 a n = some ds) (hk : K (.agg ds.toArray) w) : ldn n (.pointer (some a)) K w := by
  obtain ⟨_, hl, hc⟩ := World.cells?_some h
  subst hl
  exact ⟨ldc_cells hb hc ds.length 0 _ (by omega) hk⟩
theorem ld1_in {a : Addr} {v : Value} {K : Value → World → Prop} (hb : Below W.heap.size W w) (h : W.cell? a = some v) (hk : K v w) : ld1 (.pointer (some a)) K w :=
  ⟨v, cell_below hb h, hk⟩
end
end Go.Sh
