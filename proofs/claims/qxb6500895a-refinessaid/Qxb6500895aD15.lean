import Derived.Test.Qxb6500895aL6
namespace Go.Proofs.Qxb6500895a
open Go.Sh Go.RowKit
set_option linter.unusedVariables false
set_option linter.unusedSimpArgs false

/-- two devices, apart -/
structure Two (W w : World) (d1 d2 : Nat) (m1 m2 : Mem) (s1 s2 : DS) : Prop where
  a : Base W w d1 m1 s1
  b : Base W w d2 m2 s2
  dis : ∀ b, Own d1 m1 b → ¬ Own d2 m2 b

section
variable {W w w' : World} {d1 d2 : Nat} {m1 m2 m1' m2' : Mem} {s1 s2 s1' s2' : DS} {T : Nat → Prop}
theorem Two.kp (h : Two W w d1 d2 m1 m2 s1 s2) (hk : Kp T w w') (h1 : ∀ b, T b → ¬ Own d1 m1 b ∧ ¬ Own d2 m2 b ∧ W.heap.size ≤ b) : Two W w' d1 d2 m1 m2 s1 s2 :=
  ⟨h.a.kp hk (fun b hb q => (h1 b q).1 hb) (fun b q => (h1 b q).2.2), h.b.kp hk (fun b hb q => (h1 b q).2.1 hb) (fun b q => (h1 b q).2.2), h.dis⟩
theorem Two.kp' (h : Two W w d1 d2 m1 m2 s1 s2) (hk : Kp (fun _ => False) w w') : Two W w' d1 d2 m1 m2 s1 s2 := h.kp hk (fun _ q => q.elim)
theorem Two.stp1 (h : Two W w d1 d2 m1 m2 s1 s2) (h' : Base W w' d1 m1' s1') (st : Stp w w' d1 m1 m1') : Two W w' d1 d2 m1' m2 s1' s2 :=
  ⟨h', h.b.kp st.kp (fun b hb q => h.dis b q hb) (fun b q => h.a.far b q), fun b hb q => (st.own b hb).elim (fun e => h.dis b e q) (fun e => by have := h.b.dk.lt q; omega)⟩
theorem Two.stp2 (h : Two W w d1 d2 m1 m2 s1 s2) (h' : Base W w' d2 m2' s2') (st : Stp w w' d2 m2 m2') : Two W w' d1 d2 m1 m2' s1 s2' :=
  ⟨h.a.kp st.kp (fun b hb q => h.dis b hb q) (fun b q => h.b.far b q), h', fun b hb q => (st.own b q).elim (fun e => h.dis b hb e) (fun e => by have := h.a.dk.lt hb; omega)⟩
end

section
variable {α : Type} {f : α → Value} {w : World} {v : Value} {xs : List α} {K : Value → World → Prop}
/-- append of a slice to an empty one that is there -/
theorem ap_copy1 {e : TypeId} {z : Value} {by_ b0 : Nat} (r0 : Row w b0 e []) (hs : Vs f w v xs) (hsz : xs.length * by_ ≤ 140737488355328) (hl : xs.length < 9223372036854775808)
    (hK : ∀ w' b cap junk, xs.length ≤ cap → (b = b0 ∨ w.heap.size ≤ b) → Row w' b e (xs.map f ++ junk) → Kp (fun _ => False) w w' → K (.slice (some ⟨b, 0, none⟩) xs.length cap) w') :
    apq e [z] by_ (.slice (some ⟨b0, 0, none⟩) 0 0) v K w := by
  have main : ∀ xb xc, v = .slice xb xs.length xc → apq e [z] by_ (.slice (some ⟨b0, 0, none⟩) 0 0) v K w := by
    intro xb xc hv
    subst hv
    refine ⟨by simpa using hsz, by omega, fun q => ?_, fun q => ?_⟩
    · have h0 : xs = [] := List.eq_nil_of_length_eq_zero (by omega)
      subst h0
      refine hs.fst rfl ?_
      exact hK w b0 0 [] (Nat.le_refl _) (.inl rfl) r0 (Kp.refl _ _)
    · refine fst_0 ?_
      refine hs.fst rfl ?_
      intro c hc
      have := hK ((drw w).alloc (.cells ([] ++ (xs.map f ++ zrep [z] ((c - (0 + xs.length)) * 1))).toArray e)) w.heap.size c (zrep [z] ((c - (0 + xs.length)) * 1)) (by omega) (.inr (Nat.le_refl _)) (Row.new (drw w) e _) (kp_drw.trans (kp_alloc _))
      simpa using this
  rcases hs with ⟨rfl, rfl⟩ | ⟨a', cap', rfl, rfl⟩ | ⟨b', o', cap', rfl, h1, h2, hc⟩
  · exact main _ _ rfl
  · exact main _ _ rfl
  · exact main _ _ rfl
end

section
variable {W w : World} {d1 d2 : Nat} {m1 m2 : Mem} {s1 s2 : DS} {K : Value → World → Prop}
/-- a step on the first of two devices -/
theorem Two.play1 {v : Value} {op : Op} (h : Two W w d1 d2 m1 m2 s1 s2) (hop : OpQ w (Own d1 m1) v op)
    (hK : ∀ w' m' dv, Two W w' d1 d2 m' m2 (playS s1 op).2.2 s2 → Stp w w' d1 m1 m' → Dv w w' d1 m' dv op.kind (playS s1 op).2.1 → K (.tuple #[I (playS s1 op).1, dv]) w') : cl Try.prog 14 #[P d1 0, v] K w :=
  play_okQ h.a.dk hop fun w1 m' dv h1 st1 hd => hK w1 m' dv (h.stp1 (h.a.stp h1 st1) st1) st1 hd
theorem Two.play2 {v : Value} {op : Op} (h : Two W w d1 d2 m1 m2 s1 s2) (hop : OpQ w (Own d2 m2) v op)
    (hK : ∀ w' m' dv, Two W w' d1 d2 m1 m' s1 (playS s2 op).2.2 → Stp w w' d2 m2 m' → Dv w w' d2 m' dv op.kind (playS s2 op).2.1 → K (.tuple #[I (playS s2 op).1, dv]) w') : cl Try.prog 14 #[P d2 0, v] K w :=
  play_okQ h.b.dk hop fun w1 m' dv h1 st1 hd => hK w1 m' dv (h.stp2 (h.b.stp h1 st1) st1) st1 hd
theorem OpV.toQ {B : Nat} {Q : Nat → Prop} {v : Value} {op : Op} (h : OpV w B v op) (hQ : ∀ b, Q b → B ≤ b) : OpQ w Q v op := by
  obtain ⟨dv, kv, e, hdv, hby, hkv, hkl, haf, hdb, hkb⟩ := h
  exact ⟨dv, kv, e, hdv, hby, hkv, hkl, haf, fun b o c h0 e q => by have := hdb b o c h0 e; have := hQ b q; omega, fun b o c h0 e q => by have := hkb b o c h0 e; have := hQ b q; omega⟩
/-- both views -/
theorem Two.looks (h : Two W w d1 d2 m1 m2 s1 s2) {R : Value → Value → World → Prop} (hK : ∀ w' v1 v2, Two W w' d1 d2 m1 m2 s1 s2 → Kp (fun _ => False) w w' → Vw (fun _ => False) w' v1 s1 → Vw (fun _ => False) w' v2 s2 → R v1 v2 w') :
    cl Try.prog 18 #[P d1 0] (fun t w => cl Try.prog 18 #[P d2 0] (fun t' w => R t t' w) w) w := by
  refine look_ok (Q := fun _ => False) h.a.dk (fun _ q => q.elim) fun w1 v1 hk1 hv1 => ?_
  refine look_ok (Q := fun _ => False) (h.b.dk.kp' hk1) (fun _ q => q.elim) fun w2 v2 hk2 hv2 => ?_
  exact hK w2 v1 v2 (h.kp' (hk1.trans hk2)) (hk1.trans hk2) (hv1.kp' hk2) hv2
end
end Go.Proofs.Qxb6500895a
