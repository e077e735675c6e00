import Derived.Test.Qxb6500895aD9
import Derived.Test.Qxb6500895aQ2
namespace Go.Proofs.Qxb6500895a
open Go.Sh Go.RowKit
set_option linter.unusedVariables false
set_option linter.unusedSimpArgs false

/-- the tags of a device's blocks -/
def devTag (t : TypeId) : Bool := t == 91 || t == 5 || t == 21 || t == 100 || t == 29 || t == 3
theorem Dk.ntag {w : World} {d : Nat} {m : Mem} {s : DS} (h : Dk w d m s) {b : Nat} {t : TypeId} {l : List Value} (hr : Row w b t l) (ht : devTag t = false) : ¬ Own d m b := by
  simp only [devTag, Bool.or_eq_false_iff, beq_eq_false_iff_ne] at ht
  obtain ⟨⟨⟨⟨⟨t1, t2⟩, t3⟩, t4⟩, t5⟩, t6⟩ := ht
  rintro (q | q | q | q | q | q | q | q)
  · exact row_ne hr h.disk t1 q
  · obtain ⟨L, _, hL, _⟩ := h.plat; exact row_ne hr hL t2 q
  · exact row_ne hr h.idx t3 q
  · obtain ⟨l', hr'⟩ := h.lines.row q; exact row_ne hr hr' t4 rfl
  · obtain ⟨l', hr'⟩ := h.spare.row q; exact row_ne hr hr' t5 rfl
  · obtain ⟨l', hr'⟩ := h.kp.row q; exact row_ne hr hr' t6 rfl
  · obtain ⟨l', hr'⟩ := h.bufRow (b := b) (List.mem_cons_of_mem _ (List.mem_append_left _ q)); exact row_ne hr hr' t2 rfl
  · obtain ⟨l', hr'⟩ := h.bufRow (b := b) (List.mem_cons_of_mem _ (List.mem_append_right _ q)); exact row_ne hr hr' t2 rfl

/-- a device of a law's own, beside the world that came in -/
structure Base (W w : World) (d : Nat) (m : Mem) (s : DS) : Prop where
  dk : Dk w d m s
  far : ∀ b, Own d m b → W.heap.size ≤ b
  bel : Below W.heap.size W w

section
variable {W w w' : World} {d : Nat} {m m' : Mem} {s s' : DS} {T : Nat → Prop} {K : Value → World → Prop}
theorem Base.kp (h : Base W w d m s) (hk : Kp T w w') (h1 : ∀ b, Own d m b → ¬ T b) (h2 : ∀ b, T b → W.heap.size ≤ b) : Base W w' d m s :=
  ⟨h.dk.frame hk h1, h.far, h.bel.trans (hk.below h.bel.size (fun b hb q => by have := h2 b q; omega))⟩
theorem Base.kp' (h : Base W w d m s) (hk : Kp (fun _ => False) w w') : Base W w' d m s := h.kp hk (fun _ _ h => h) (fun _ h => h.elim)
theorem Base.stp (h : Base W w d m s) (h' : Dk w' d m' s') (st : Stp w w' d m m') : Base W w' d m' s' :=
  ⟨h', fun b hb => (st.own b hb).elim (h.far b) (fun q => Nat.le_trans h.bel.size q), h.bel.trans (st.kp.below h.bel.size (fun b hb q => by have := h.far b q; omega))⟩
theorem Base.play {v : Value} {op : Op} (h : Base W w d m s) (hop : OpV w W.heap.size v op)
    (hK : ∀ w' m' dv, Base W w' d m' (playS s op).2.2 → Stp w w' d m m' → Dv w w' d m' dv op.kind (playS s op).2.1 → K (.tuple #[I (playS s op).1, dv]) w') : cl Try.prog 14 #[.pointer (some ⟨d, 0, none⟩), v] K w :=
  play_ok h.dk hop h.far fun w1 m1 dv h1 st1 hd => hK w1 m1 dv (h.stp h1 st1) st1 hd
end

/-- a slice of bytes of a law's own, or none; its block is outside P -/
def SecV (P : Nat → Prop) (w : World) (v : Value) (o : Option (List Int)) : Prop :=
  (o = none ∧ v = .slice none 0 0) ∨ ∃ x b cap junk, o = some x ∧ v = .slice (some ⟨b, 0, none⟩) x.length cap ∧ x.length ≤ cap ∧ x.length ≤ 9223372036854775807 ∧ Row w b 5 (x.map U8 ++ junk) ∧ ¬ P b
section
variable {P P' T : Nat → Prop} {w w' : World} {v : Value} {o : Option (List Int)} {lb : Nat} {vs : List Value} {last : Nat → Option (List Int)}
theorem SecV.mv' (h : SecV P w v o) (hk : Kp T w w') (hT : ∀ b l, Row w b 5 l → ¬ P b → ¬ T b) (hP : ∀ b, P' b → P b ∨ w.heap.size ≤ b) : SecV P' w' v o := by
  rcases h with h | ⟨x, b, cap, junk, h1, h2, h3, h4, h5, h6⟩
  · exact .inl h
  · refine .inr ⟨x, b, cap, junk, h1, h2, h3, h4, hk.row h5 (hT b _ h5 h6), fun q => ?_⟩
    rcases hP b q with q | q
    · exact h6 q
    · have := h5.lt; omega
theorem SecV.mv (h : SecV P w v o) (hk : Kp T w w') (hT : ∀ b, T b → P b) (hP : ∀ b, P' b → P b ∨ w.heap.size ≤ b) : SecV P' w' v o :=
  h.mv' hk (fun b _ _ h1 h2 => h1 (hT b h2)) hP
theorem SecV.kp' (h : SecV P w v o) (hk : Kp (fun _ => False) w w') : SecV P w' v o := h.mv hk (fun _ q => q.elim) (fun _ q => .inl q)
theorem SecV.toVs {x : List Int} (h : SecV P w v (some x)) : Vs U8 w v x := by
  rcases h with ⟨q, _⟩ | ⟨x', b, cap, junk, h1, h2, h3, h4, h5, h6⟩
  · cases q
  · cases h1
    rw [h2]
    exact vs_row h5 h3 h4
theorem SecV.nn {x : List Int} (h : SecV P w v (some x)) : ∃ a n c, v = .slice (some a) n c := by
  rcases h with ⟨q, _⟩ | ⟨x', b, cap, junk, h1, h2, h3, h4, h5, h6⟩
  · cases q
  · exact ⟨_, _, _, h2⟩
theorem SecV.nl (h : SecV P w v none) : v = .slice none 0 0 := by
  rcases h with ⟨_, q⟩ | ⟨x', b, cap, junk, h1, _⟩
  · exact q
  · cases h1
theorem SecV.sc (h : SecV P w v o) : scal v = true := by
  rcases h with ⟨_, rfl⟩ | ⟨x, b, cap, junk, _, rfl, _⟩ <;> rfl
/-- an array of twelve of them -/
structure Arr (P : Nat → Prop) (w : World) (lb : Nat) (vs : List Value) (last : Nat → Option (List Int)) : Prop where
  row : Row w lb 48 vs
  len : vs.length = 12
  sec : ∀ i, i < 12 → ∃ v, vs[i]? = some v ∧ SecV P w v (last i)
theorem Arr.mv (h : Arr P w lb vs last) (hk : Kp T w w') (hT : ∀ b, T b → P b) (hP : ∀ b, P' b → P b ∨ w.heap.size ≤ b) (hl : ¬ T lb) : Arr P' w' lb vs last :=
  ⟨hk.row h.row hl, h.len, fun i hi => by obtain ⟨v, h1, h2⟩ := h.sec i hi; exact ⟨v, h1, h2.mv hk hT hP⟩⟩
theorem Arr.kp' (h : Arr P w lb vs last) (hk : Kp (fun _ => False) w w') : Arr P w' lb vs last := h.mv hk (fun _ q => q.elim) (fun _ q => .inl q) (fun q => q)
/-- one place is set -/
theorem Arr.set {k : Nat} (h : Arr P w lb vs last) (hk : Kp (fun b => b = lb) w w') (hr : Row w' lb 48 (vs.set k v)) (hv : SecV P w v o) : Arr P w' lb (vs.set k v) (upd last k o) := by
  have key : ∀ {v o}, SecV P w v o → SecV P w' v o := fun h' => h'.mv' hk (fun b l hr _ (q : b = lb) => row_ne hr h.row (by decide) q) (fun _ q => .inl q)
  refine ⟨hr, by rw [List.length_set]; exact h.len, fun i hi => ?_⟩
  rw [List.getElem?_set]
  unfold upd
  by_cases e : k = i
  · subst e
    rw [if_pos rfl, if_pos (by rw [h.len]; exact hi), if_pos rfl]
    exact ⟨v, rfl, key hv⟩
  · rw [if_neg e, if_neg (fun q => e q.symm)]
    obtain ⟨u, h1, h2⟩ := h.sec i hi
    exact ⟨u, h1, key h2⟩
end
def nil12 : List Value := [.slice none 0 0, .slice none 0 0, .slice none 0 0, .slice none 0 0, .slice none 0 0, .slice none 0 0, .slice none 0 0, .slice none 0 0, .slice none 0 0, .slice none 0 0, .slice none 0 0, .slice none 0 0]
theorem nil12_get {i : Nat} (hi : i < 12) : nil12[i]? = some (.slice none 0 0) := by
  have : nil12 = List.replicate 12 (.slice none 0 0) := rfl
  rw [this, List.getElem?_replicate, if_pos hi]
theorem Arr.nil {P : Nat → Prop} {w : World} {lb : Nat} (hr : Row w lb 48 nil12) : Arr P w lb nil12 (fun _ => none) :=
  ⟨hr, rfl, fun i hi => ⟨_, nil12_get hi, .inl ⟨rfl, rfl⟩⟩⟩
end Go.Proofs.Qxb6500895a
