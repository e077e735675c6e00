/-
  Qxb6500896aGreatShTZ: own work. As ShTV, with the form's own reach: each string and each slice is at most R bytes.
-/
import Derived.Test.Qxb6500896aGreatShTV
import GoSem.ClaimJoined
namespace Go.Sh
open Go.RowKit
set_option linter.unusedVariables false
set_option linter.unusedSimpArgs false

def TZ (P : Program) (W : World) (R : Nat) : Nat → TypeId → List Value → Prop
  | 0, _, _ => False
  | f + 1, t, cs =>
    match P.underlying t with
    | some .bool => ∃ b, cs = [.bool b]
    | some (.int k) => ∃ n, cs = [.int k n] ∧ (Lit.int k n).wf = true
    | some .string => ∃ s : ByteArray, cs = [.string s] ∧ s.size ≤ R
    | some (.slice e) => cs = [.slice none 0 0] ∨ ∃ (a : Addr) (len cap : Nat), cs = [.slice (some a) len cap] ∧ len ≤ cap ∧ cap ≤ maxLen ∧ len * P.bytesOf e ≤ R ∧
        ∀ i, i < len → ∃ ds, W.cells? 0 (a.add (i * P.cellsOf e)) (P.cellsOf e) = some ds ∧ TZ P W R f e ds
    | some (.struct fs) => cs.length = P.cellsOf t ∧ ∀ fl ∈ fs.toList, TZ P W R f fl.type ((cs.drop fl.offset).take (P.cellsOf fl.type))
    | some (.array n e) => cs.length = P.cellsOf t ∧ ∀ i, i < n → TZ P W R f e ((cs.drop (i * P.cellsOf e)).take (P.cellsOf e))
    | _ => True

theorem mem_wAll {H : Type} {P : Program} {e : TypeId} {n : Nat} : ∀ {l : List (DataW H)} {d : DataW H}, d ∈ l → n ∈ d.weights P e → n ∈ DataW.weightsAll P e l
  | x :: r, d, hd, hn => by
    unfold DataW.weightsAll
    rcases List.mem_cons.1 hd with h | h
    · subst h; exact List.mem_append_left _ hn
    · exact List.mem_append_right _ (mem_wAll h hn)
theorem mem_wEach {H : Type} {P : Program} {n : Nat} : ∀ {ts : List TypeId} {ds : List (DataW H)} {i : Nat} {t : TypeId} {d : DataW H}, ts[i]? = some t → ds[i]? = some d → n ∈ d.weights P t → n ∈ DataW.weightsEach P ts ds
  | [], ds, i, t, d, ht, hd, hn => by simp at ht
  | t0 :: ts, [], i, t, d, ht, hd, hn => by simp at hd
  | t0 :: ts, d0 :: ds, 0, t, d, ht, hd, hn => by
    have e1 : t0 = t := by simpa using ht
    have e2 : d0 = d := by simpa using hd
    subst e1 e2
    unfold DataW.weightsEach
    exact List.mem_append_left _ hn
  | t0 :: ts, d0 :: ds, i + 1, t, d, ht, hd, hn => by
    unfold DataW.weightsEach
    exact List.mem_append_right _ (mem_wEach (by simpa using ht) (by simpa using hd) hn)

theorem tz_of_trod {H : Type} {enc : TypeId × Value → H} {P : Program} {W : World} {spare : Nat → Bool} {held : Bool} {R : Nat} :
    ∀ (f : Nat) (t : TypeId) (cs : List Value) (x : DataW H × List MemPlace), DataW.trod enc P W 0 spare held f t cs = some x → (∀ n ∈ x.1.weights P t, n ≤ R) → TZ P W R f t cs := by
  intro f
  induction f with
  | zero => intro t cs x h; simp [DataW.trod] at h
  | succ f ih =>
    intro t cs x h hw
    unfold TZ
    split
    · rename_i hu; obtain ⟨b, e, _⟩ := DataW.trod_bool hu h; exact ⟨b, e⟩
    · rename_i k hu; obtain ⟨n, e, _, hw⟩ := DataW.trod_int hu h; exact ⟨n, e, hw⟩
    · rename_i hu
      obtain ⟨s, e, ex, hm⟩ := DataW.trod_string hu h
      refine ⟨s, e, ?_⟩
      subst ex
      have := hw s.data.toList.length (by simp [DataW.weights])
      simpa using this
    · rename_i e hu
      rcases DataW.trod_slice hu h with ⟨e, _⟩ | ⟨a, len, cap, elems, rest, n, en, ecs, ex, hb, hl, hm, hlen, hel, _, _⟩
      · exact .inl e
      · cases en
        subst ex
        simp only [DataW.weights, hu] at hw
        refine .inr ⟨a, len, cap, ecs, hl, hm, ?_, fun i hi => ?_⟩
        · have := hw _ (List.mem_cons_self ..)
          simp only [List.length_map] at this
          exact Nat.le_trans (Nat.mul_le_mul_right _ (by omega)) this
        · have := hel i hi
          rw [List.getElem?_eq_getElem (by omega)] at this
          obtain ⟨ds, h1, h2⟩ := Option.bind_eq_some_iff.1 this
          refine ⟨ds, h1, ih _ _ _ h2 fun n hn => hw n ?_⟩
          exact List.mem_cons_of_mem _ (List.mem_append_left _ (mem_wAll (List.mem_map_of_mem (List.getElem_mem (by omega))) hn))
    · rename_i fs hu
      obtain ⟨xs, n, en, ex, hl, hxl, hf⟩ := DataW.trod_struct hu h
      cases en
      subst ex
      simp only [DataW.weights, hu] at hw
      refine ⟨hl, fun fl hfl => ?_⟩
      obtain ⟨i, hi, e⟩ := List.getElem_of_mem hfl
      simp only [Array.length_toList, Array.getElem_toList] at hi e
      have hfi : fs[i]? = some fl := by rw [Array.getElem?_eq_getElem hi, e]
      have := hf i fl hfi
      rw [List.getElem?_eq_getElem (by omega)] at this
      refine ih _ _ _ this fun n hn => hw n ?_
      refine mem_wEach (i := i) (t := fl.type) ?_ ?_ hn
      · rw [List.getElem?_map, Array.getElem?_toList, hfi]; rfl
      · rw [List.getElem?_map, List.getElem?_eq_getElem (by omega)]; rfl
    · rename_i n e hu
      unfold DataW.trod at h
      rw [hu] at h
      split at h <;> simp_all
      obtain ⟨hl, xs, hp, hd⟩ := h
      subst hd
      simp only [DataW.weights, hu] at hw
      intro i hi
      have h2 := mapM_some_get hp i i (by simp [hi])
      have h3 := mapM_some_length hp
      rw [List.getElem?_eq_getElem (by simp at h3; omega)] at h2
      exact ih _ _ _ _ h2 fun n hn => hw n (mem_wAll (List.mem_map_of_mem (List.getElem_mem (by simp at h3; omega))) hn)
    · trivial

section
variable {P : Program} {W w : World} {R f : Nat} {t e : TypeId} {cs : List Value}
theorem tz_bool (hu : P.underlying t = some .bool) (h : TZ P W R f t cs) : ∃ b, cs = [.bool b] := by
  cases f with
  | zero => exact h.elim
  | succ f => unfold TZ at h; rw [hu] at h; exact h
theorem tz_int {k : IntKind} (hu : P.underlying t = some (.int k)) (h : TZ P W R f t cs) : ∃ n, cs = [.int k n] ∧ (Lit.int k n).wf = true := by
  cases f with
  | zero => exact h.elim
  | succ f => unfold TZ at h; rw [hu] at h; exact h
theorem tz_string (hu : P.underlying t = some .string) (h : TZ P W R f t cs) : ∃ s : ByteArray, cs = [.string s] ∧ s.size ≤ R := by
  cases f with
  | zero => exact h.elim
  | succ f => unfold TZ at h; rw [hu] at h; exact h
theorem tz_slice (hu : P.underlying t = some (.slice e)) (h : TZ P W R f t cs) : cs = [.slice none 0 0] ∨ ∃ (a : Addr) (len cap g : Nat), cs = [.slice (some a) len cap] ∧ f = g + 1 ∧ len ≤ cap ∧ cap ≤ maxLen ∧ len * P.bytesOf e ≤ R ∧
        ∀ i, i < len → ∃ ds, W.cells? 0 (a.add (i * P.cellsOf e)) (P.cellsOf e) = some ds ∧ TZ P W R g e ds := by
  cases f with
  | zero => exact h.elim
  | succ f =>
    unfold TZ at h; rw [hu] at h
    rcases h with h | ⟨a, len, cap, h1, h2, h3, h4, h5⟩
    · exact .inl h
    · exact .inr ⟨a, len, cap, f, h1, rfl, h2, h3, h4, h5⟩
theorem tz_struct {fs : Array Field} (hu : P.underlying t = some (.struct fs)) (h : TZ P W R f t cs) :
    ∃ g, f = g + 1 ∧ cs.length = P.cellsOf t ∧ ∀ fl ∈ fs.toList, TZ P W R g fl.type ((cs.drop fl.offset).take (P.cellsOf fl.type)) := by
  cases f with
  | zero => exact h.elim
  | succ f => unfold TZ at h; rw [hu] at h; exact ⟨f, rfl, h⟩
theorem tz_array {n : Nat} (hu : P.underlying t = some (.array n e)) (h : TZ P W R f t cs) :
    ∃ g, f = g + 1 ∧ cs.length = P.cellsOf t ∧ ∀ i, i < n → TZ P W R g e ((cs.drop (i * P.cellsOf e)).take (P.cellsOf e)) := by
  cases f with
  | zero => exact h.elim
  | succ f => unfold TZ at h; rw [hu] at h; exact ⟨f, rfl, h⟩
end
end Go.Sh
