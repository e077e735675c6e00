import Derived.Test.Qxb6500895aD15
namespace Go.Proofs.Qxb6500895a
open Go.Sh Go.RowKit
set_option linter.unusedVariables false
set_option linter.unusedSimpArgs false

/-- a sector's bytes in block b -/
def At (w : World) (b : Nat) (v : Value) (x : List Int) : Prop := ∃ cap junk, v = .slice (some ⟨b, 0, none⟩) 16 cap ∧ 16 ≤ cap ∧ Row w b 5 (x.map U8 ++ junk) ∧ x.length = 16
theorem At.kp {w w' : World} {b : Nat} {v : Value} {x : List Int} {T : Nat → Prop} (h : At w b v x) (hk : Kp T w w') (hn : ¬ T b) : At w' b v x := by
  obtain ⟨cap, junk, h1, h2, h3, h4⟩ := h
  exact ⟨cap, junk, h1, h2, hk.row h3 hn, h4⟩
theorem At.lt {w : World} {b : Nat} {v : Value} {x : List Int} (h : At w b v x) : b < w.heap.size := by
  obtain ⟨cap, junk, h1, h2, h3, h4⟩ := h; exact h3.lt
theorem At.tag {w : World} {b b' : Nat} {v : Value} {x : List Int} {t : TypeId} {l : List Value} (h : At w b v x) (hr : Row w b' t l) (ht : t ≠ 5) : b ≠ b' := by
  obtain ⟨cap, junk, h1, h2, h3, h4⟩ := h; exact row_ne h3 hr (fun e => ht e.symm)
theorem At.sc {w : World} {b : Nat} {v : Value} {x : List Int} (h : At w b v x) : scal v = true := by
  obtain ⟨cap, junk, rfl, _⟩ := h; rfl

/-- the law's own sectors: those at the last flush or crash, and those written since -/
structure St5 (W w : World) (d : Nat) (m : Mem) (s : DS) (oo t5 : Nat) (vs ws : List Value) (ob wb : Nat → Nat) (f : Nat → List Int) (g : Nat → Option (List Int)) (lo : Nat) : Prop where
  base : Base W w d m s
  ro : Row w oo 29 vs
  vl : vs.length = 12
  on : ¬ Own d m oo
  of_ : W.heap.size ≤ oo
  rt : Row w t5 48 ws
  wl : ws.length = 12
  tf : W.heap.size ≤ t5
  old : ∀ i, i < 12 → ∃ v, vs[i]? = some v ∧ At w (ob i) v (f i)
  wri : ∀ i, i < 12 → ∀ x, g i = some x → ∃ v, ws[i]? = some v ∧ At w (wb i) v x
  nil : ∀ i, i < 12 → lo ≤ i → g i = none → ws[i]? = some nilS
  inj1 : ∀ i j, i < 12 → j < 12 → i ≠ j → ob i ≠ ob j
  inj2 : ∀ i j, i < 12 → j < 12 → g i ≠ none → g j ≠ none → i ≠ j → wb i ≠ wb j
  sep : ∀ i j, i < 12 → j < 12 → g i ≠ none → ob j ≠ wb i
  no1 : ∀ i, i < 12 → ¬ Own d m (ob i) ∧ W.heap.size ≤ ob i
  no2 : ∀ i, i < 12 → g i ≠ none → ¬ Own d m (wb i) ∧ W.heap.size ≤ wb i

/-- the plan of a crash -/
def Pl (W w : World) (d : Nat) (m : Mem) (kv : Value) (keep : List Int) : Prop :=
  VsP (fun b => W.heap.size ≤ b) I w kv keep ∨ ∃ kob, Sl i1 1 w 3 kob kv keep ∧ keep.length ≤ 65536 ∧ ∀ b, kob = some b → ¬ Own d m b

section
variable {W w w' : World} {d oo t5 lo : Nat} {m m' : Mem} {s s' : DS} {vs ws : List Value} {ob wb : Nat → Nat} {f : Nat → List Int} {g : Nat → Option (List Int)} {kv v : Value} {keep : List Int} {xs : List Op} {K : Value → World → Prop}

theorem Pl.vs' (h : Pl W w d m kv keep) : Vs I w kv keep := by
  rcases h with h | ⟨kob, h, hl, _⟩
  · exact h.1
  · exact sl_vs h hl
theorem Pl.sc (h : Pl W w d m kv keep) : scal kv = true := by
  rcases h with h | ⟨kob, h, hl, _⟩
  · exact h.sc
  · exact sl_scal h
theorem Pl.tag {T : Nat → Prop} (h : Pl W w d m kv keep) (hk : Kp T w w') (h1 : ∀ b, T b → W.heap.size ≤ b) (h2 : ∀ b l, T b → ¬ Row w b 3 l) : Pl W w' d m kv keep := by
  rcases h with h | ⟨kob, h, hl, hn⟩
  · exact .inl (h.mv hk (fun b _ q => h1 b q) (fun b q => .inl q))
  · exact .inr ⟨kob, h.kp hk (fun b hb q => by obtain ⟨l, hr⟩ := h.row hb; exact h2 b l q hr), hl, hn⟩
theorem Pl.kp' (h : Pl W w d m kv keep) (hk : Kp (fun _ => False) w w') : Pl W w' d m kv keep := h.tag hk (fun _ q => q.elim) (fun _ _ q => q.elim)
theorem Pl.stp (h : Pl W w d m kv keep) (st : Stp w w' d m m') (hf : ∀ b, Own d m b → W.heap.size ≤ b) : Pl W w' d m' kv keep := by
  rcases h with h | ⟨kob, h, hl, hn⟩
  · exact .inl (h.mv st.kp (fun b _ q => hf b q) (fun b q => .inl q))
  · refine .inr ⟨kob, h.kp st.kp hn, hl, fun b hb q => ?_⟩
    obtain ⟨l, hr⟩ := h.row hb
    have := hr.lt
    rcases st.own b q with q | q
    · exact hn b hb q
    · omega

/-- a change elsewhere -/
theorem St5.kpT {T : Nat → Prop} (h : St5 W w d m s oo t5 vs ws ob wb f g lo) (hk : Kp T w w') (h0 : ∀ b, T b → W.heap.size ≤ b ∧ ¬ Own d m b ∧ b ≠ oo ∧ b ≠ t5 ∧ ∀ l, ¬ Row w b 5 l) : St5 W w' d m s oo t5 vs ws ob wb f g lo := by
  have key : ∀ {b u x}, At w b u x → At w' b u x := fun ha => ha.kp hk (fun q => by obtain ⟨cap, junk, _, _, r, _⟩ := ha; exact (h0 _ q).2.2.2.2 _ r)
  exact ⟨h.base.kp hk (fun b hb q => (h0 b q).2.1 hb) (fun b q => (h0 b q).1), hk.row h.ro (fun q => (h0 _ q).2.2.1 rfl), h.vl, h.on, h.of_, hk.row h.rt (fun q => (h0 _ q).2.2.2.1 rfl), h.wl, h.tf,
    fun i hi => by obtain ⟨u, a, b⟩ := h.old i hi; exact ⟨u, a, key b⟩, fun i hi x hx => by obtain ⟨u, a, b⟩ := h.wri i hi x hx; exact ⟨u, a, key b⟩, h.nil, h.inj1, h.inj2, h.sep, h.no1, h.no2⟩
theorem St5.kp' (h : St5 W w d m s oo t5 vs ws ob wb f g lo) (hk : Kp (fun _ => False) w w') : St5 W w' d m s oo t5 vs ws ob wb f g lo := h.kpT hk (fun _ q => q.elim)
/-- a step of the device -/
theorem St5.stp (h : St5 W w d m s oo t5 vs ws ob wb f g lo) (hb : Base W w' d m' s') (st : Stp w w' d m m') : St5 W w' d m' s' oo t5 vs ws ob wb f g lo := by
  have conv : ∀ b, ¬ Own d m b → b < w.heap.size → ¬ Own d m' b := fun b h1 h2 q => (st.own b q).elim h1 (fun q => by omega)
  refine ⟨hb, st.kp.row h.ro h.on, h.vl, conv _ h.on h.ro.lt, h.of_, st.kp.row h.rt (h.base.dk.ntag h.rt (by decide)), h.wl, h.tf, fun i hi => ?_, fun i hi x hx => ?_, h.nil, h.inj1, h.inj2, h.sep, fun i hi => ?_, fun i hi hg => ?_⟩
  · obtain ⟨u, a, b⟩ := h.old i hi; exact ⟨u, a, b.kp st.kp (h.no1 i hi).1⟩
  · obtain ⟨u, a, b⟩ := h.wri i hi x hx; exact ⟨u, a, b.kp st.kp (h.no2 i hi (by rw [hx]; exact fun q => by cases q)).1⟩
  · obtain ⟨u, a, b⟩ := h.old i hi; exact ⟨conv _ (h.no1 i hi).1 b.lt, (h.no1 i hi).2⟩
  · cases hx : g i with
    | none => exact absurd hx hg
    | some x => obtain ⟨u, a, b⟩ := h.wri i hi x hx; exact ⟨conv _ (h.no2 i hi hg).1 b.lt, (h.no2 i hi hg).2⟩
/-- written[k] = a fresh copy -/
theorem St5.put {k cb : Nat} {u : Value} {x : List Int} (h : St5 W w d m s oo t5 vs ws ob wb f g lo) (hk12 : k < 12) (ha : At w cb u x) (hc1 : ∀ i, i < 12 → ob i ≠ cb) (hc2 : ∀ i, i < 12 → g i ≠ none → wb i ≠ cb) (hno : ¬ Own d m cb) (hf : W.heap.size ≤ cb)
    (hk : Kp (fun b => b = t5) w w') (hr : Row w' t5 48 (ws.set k u)) : St5 W w' d m s oo t5 vs (ws.set k u) ob (upd wb k cb) f (upd g k (some x)) lo := by
  have hn : ¬ Own d m t5 := h.base.dk.ntag h.rt (by decide)
  have key : ∀ {b u x}, At w b u x → At w' b u x := fun ha => ha.kp hk (fun q => ha.tag h.rt (by decide) q)
  refine ⟨h.base.kp hk (fun b hb (q : b = t5) => hn (q ▸ hb)) (fun b (q : b = t5) => by rw [q]; exact h.tf), hk.row h.ro (fun q => row_ne h.ro h.rt (by decide) q), h.vl, h.on, h.of_, hr, by rw [List.length_set]; exact h.wl, h.tf, fun i hi => ?_, fun i hi y hy => ?_, fun i hi hl hg => ?_, h.inj1, fun i j hi hj hgi hgj hij => ?_, fun i j hi hj hg => ?_, h.no1, fun i hi hg => ?_⟩
  · obtain ⟨v', a, b⟩ := h.old i hi; exact ⟨v', a, key b⟩
  · rw [List.getElem?_set]
    unfold upd at hy ⊢
    by_cases e : k = i
    · subst e
      rw [if_pos rfl] at hy; cases hy
      rw [if_pos rfl, if_pos (by rw [h.wl]; exact hi), if_pos rfl]
      exact ⟨u, rfl, key ha⟩
    · rw [if_neg (fun q => e q.symm)] at hy
      rw [if_neg e, if_neg (fun q => e q.symm)]
      obtain ⟨v', a, b⟩ := h.wri i hi y hy
      exact ⟨v', a, key b⟩
  · rw [List.getElem?_set]
    unfold upd at hg
    by_cases e : k = i
    · subst e; rw [if_pos rfl] at hg; cases hg
    · rw [if_neg (fun q => e q.symm)] at hg
      rw [if_neg e]; exact h.nil i hi hl hg
  · unfold upd at hgi hgj ⊢
    by_cases ei : i = k
    · subst ei
      rw [if_pos rfl, if_neg (fun q => hij q.symm)]
      rw [if_neg (fun q => hij q.symm)] at hgj
      exact fun q => hc2 j hj hgj q.symm
    · rw [if_neg ei] at hgi ⊢
      by_cases ej : j = k
      · subst ej; rw [if_pos rfl]; exact hc2 i hi hgi
      · rw [if_neg ej] at hgj ⊢; exact h.inj2 i j hi hj hgi hgj hij
  · unfold upd at hg ⊢
    by_cases ei : i = k
    · subst ei; rw [if_pos rfl]; exact hc1 j hj
    · rw [if_neg ei] at hg ⊢; exact h.sep i j hi hj hg
  · unfold upd at hg ⊢
    by_cases ei : i = k
    · subst ei; rw [if_pos rfl]; exact ⟨hno, hf⟩
    · rw [if_neg ei] at hg ⊢; exact h.no2 i hi hg
/-- a sector of 'written' is done with -/
theorem St5.drop {k : Nat} (h : St5 W w d m s oo t5 vs ws ob wb f g k) : St5 W w d m s oo t5 vs ws ob wb f (upd g k none) (k + 1) := by
  have g1 : ∀ i, upd g k none i ≠ none → g i ≠ none := by
    intro i hi
    unfold upd at hi
    by_cases e : i = k
    · rw [if_pos e] at hi; exact absurd rfl hi
    · rw [if_neg e] at hi; exact hi
  refine ⟨h.base, h.ro, h.vl, h.on, h.of_, h.rt, h.wl, h.tf, h.old, fun i hi x hx => ?_, fun i hi hl hg => ?_, h.inj1, fun i j hi hj a b c => h.inj2 i j hi hj (g1 i a) (g1 j b) c, fun i j hi hj a => h.sep i j hi hj (g1 i a), h.no1, fun i hi a => h.no2 i hi (g1 i a)⟩
  · unfold upd at hx
    by_cases e : i = k
    · rw [if_pos e] at hx; cases hx
    · rw [if_neg e] at hx; exact h.wri i hi x hx
  · unfold upd at hg
    rw [if_neg (by omega)] at hg
    exact h.nil i hi (by omega) hg
/-- old[k] = written[k] -/
theorem St5.move {k : Nat} {u : Value} {x : List Int} (h : St5 W w d m s oo t5 vs ws ob wb f g k) (hk12 : k < 12) (hg : g k = some x) (hu : ws[k]? = some u) (hk : Kp (fun b => b = oo) w w') (hr : Row w' oo 29 (vs.set k u)) :
    St5 W w' d m s oo t5 (vs.set k u) ws (upd ob k (wb k)) wb (upd f k x) (upd g k none) (k + 1) := by
  have hgk : g k ≠ none := by rw [hg]; exact fun q => by cases q
  have key : ∀ {b u x}, At w b u x → At w' b u x := fun ha => ha.kp hk (fun q => ha.tag h.ro (by decide) q)
  have g1 : ∀ i, upd g k none i ≠ none → g i ≠ none ∧ i ≠ k := by
    intro i hi
    unfold upd at hi
    by_cases e : i = k
    · rw [if_pos e] at hi; exact absurd rfl hi
    · rw [if_neg e] at hi; exact ⟨hi, e⟩
  refine ⟨h.base.kp hk (fun b hb (q : b = oo) => h.on (q ▸ hb)) (fun b (q : b = oo) => by rw [q]; exact h.of_), hr, by rw [List.length_set]; exact h.vl, h.on, h.of_, hk.row h.rt (fun q => row_ne h.rt h.ro (by decide) q), h.wl, h.tf, fun i hi => ?_, fun i hi y hy => ?_, fun i hi hl hg => ?_, fun i j hi hj hij => ?_, fun i j hi hj a b c => h.inj2 i j hi hj (g1 i a).1 (g1 j b).1 c, fun i j hi hj a => ?_, fun i hi => ?_, fun i hi a => h.no2 i hi (g1 i a).1⟩
  · rw [List.getElem?_set]
    unfold upd
    by_cases e : k = i
    · subst e
      rw [if_pos rfl, if_pos (by rw [h.vl]; exact hi), if_pos rfl, if_pos rfl]
      obtain ⟨v', a, b⟩ := h.wri k hi x hg
      rw [hu] at a; cases a
      exact ⟨u, rfl, key b⟩
    · rw [if_neg e, if_neg (fun q => e q.symm), if_neg (fun q => e q.symm)]
      obtain ⟨v', a, b⟩ := h.old i hi
      exact ⟨v', a, key b⟩
  · unfold upd at hy
    by_cases e : i = k
    · rw [if_pos e] at hy; cases hy
    · rw [if_neg e] at hy
      obtain ⟨v', a, b⟩ := h.wri i hi y hy
      exact ⟨v', a, key b⟩
  · unfold upd at hg
    rw [if_neg (by omega)] at hg
    exact h.nil i hi (by omega) hg
  · unfold upd
    by_cases ei : i = k
    · subst ei
      rw [if_pos rfl, if_neg (fun q => hij q.symm)]
      exact fun q => h.sep i j hi hj hgk q.symm
    · rw [if_neg ei]
      by_cases ej : j = k
      · subst ej; rw [if_pos rfl]; exact h.sep j i hj hi hgk
      · rw [if_neg ej]; exact h.inj1 i j hi hj hij
  · unfold upd
    obtain ⟨a1, a2⟩ := g1 i a
    by_cases ej : j = k
    · subst ej; rw [if_pos rfl]; exact h.inj2 j i hj hi hgk a1 (fun q => a2 q.symm)
    · rw [if_neg ej]; exact h.sep i j hi hj a1
  · unfold upd
    by_cases ei : i = k
    · rw [if_pos ei]; exact h.no2 k hk12 hgk
    · rw [if_neg ei]; exact h.no1 i hi
/-- old[k][i] = a byte -/
theorem St5.poke {k : Nat} {x : List Int} (h : St5 W w d m s oo t5 vs ws ob wb f g lo) (hk12 : k < 12) (hx : x.length = 16) (hk : Kp (fun b => b = ob k) w w') (hr : ∀ l, Row w (ob k) 5 ((f k).map U8 ++ l) → Row w' (ob k) 5 (x.map U8 ++ l)) :
    St5 W w' d m s oo t5 vs ws ob wb (upd f k x) g lo := by
  obtain ⟨u, hu, cap, junk, e1, e2, e3, e4⟩ := h.old k hk12
  refine ⟨h.base.kp hk (fun b hb (q : b = ob k) => (h.no1 k hk12).1 (q ▸ hb)) (fun b (q : b = ob k) => by rw [q]; exact (h.no1 k hk12).2), hk.row h.ro (fun q => row_ne h.ro e3 (by decide) q), h.vl, h.on, h.of_, hk.row h.rt (fun q => row_ne h.rt e3 (by decide) q), h.wl, h.tf, fun i hi => ?_, fun i hi y hy => ?_, h.nil, h.inj1, h.inj2, h.sep, h.no1, h.no2⟩
  · unfold upd
    by_cases e : i = k
    · subst e
      rw [if_pos rfl]
      exact ⟨u, hu, cap, junk, e1, e2, hr _ e3, hx⟩
    · rw [if_neg e]
      obtain ⟨v', a, b⟩ := h.old i hi
      exact ⟨v', a, b.kp hk (fun q => h.inj1 i k hi hk12 e q)⟩
  · obtain ⟨v', a, b⟩ := h.wri i hi y hy
    exact ⟨v', a, b.kp hk (fun q => h.sep i k hi hk12 (by rw [hy]; exact fun q => by cases q) q.symm)⟩
/-- 'written' is cleared -/
theorem St5.clear (h : St5 W w d m s oo t5 vs ws ob wb f g lo) (hk : Kp (fun b => b = t5) w w') (hr : Row w' t5 48 nil12) : St5 W w' d m s oo t5 vs nil12 ob wb f (fun _ => none) 0 := by
  have hn : ¬ Own d m t5 := h.base.dk.ntag h.rt (by decide)
  have key : ∀ {b u x}, At w b u x → At w' b u x := fun ha => ha.kp hk (fun q => ha.tag h.rt (by decide) q)
  refine ⟨h.base.kp hk (fun b hb (q : b = t5) => hn (q ▸ hb)) (fun b (q : b = t5) => by rw [q]; exact h.tf), hk.row h.ro (fun q => row_ne h.ro h.rt (by decide) q), h.vl, h.on, h.of_, hr, rfl, h.tf, fun i hi => ?_, fun i hi y hy => (by cases hy), fun i hi _ _ => nil12_get hi, h.inj1, fun i j _ _ a => absurd rfl a, fun i j _ _ a => absurd rfl a, h.no1, fun i _ a => absurd rfl a⟩
  obtain ⟨v', a, b⟩ := h.old i hi; exact ⟨v', a, key b⟩
theorem St5.secL (h : St5 W w d m s oo t5 vs ws ob wb f g lo) : SecL (fun _ => False) w (.slice (some ⟨oo, 0, none⟩) 12 12) f := by
  refine ⟨oo, 12, vs, rfl, Nat.le_refl _, h.ro, fun q => q, fun i hi => ?_⟩
  obtain ⟨u, hu, cap, junk, e1, e2, e3, e4⟩ := h.old i hi
  exact ⟨u, hu, .inr ⟨f i, ob i, cap, junk, rfl, by rw [e4]; exact e1, by omega, by omega, e3, fun q => q⟩⟩
theorem St5.congr {f' : Nat → List Int} {g' : Nat → Option (List Int)} (h : St5 W w d m s oo t5 vs ws ob wb f g lo) (hf : ∀ i, i < 12 → f i = f' i) (hg : ∀ i, i < 12 → g i = g' i) : St5 W w d m s oo t5 vs ws ob wb f' g' lo :=
  ⟨h.base, h.ro, h.vl, h.on, h.of_, h.rt, h.wl, h.tf, fun i hi => by rw [← hf i hi]; exact h.old i hi, fun i hi x hx => h.wri i hi x (by rw [hg i hi]; exact hx), fun i hi hl hx => h.nil i hi hl (by rw [hg i hi]; exact hx), h.inj1,
    fun i j hi hj a b => h.inj2 i j hi hj (by rw [hg i hi]; exact a) (by rw [hg j hj]; exact b), fun i j hi hj a => h.sep i j hi hj (by rw [hg i hi]; exact a), h.no1, fun i hi a => h.no2 i hi (by rw [hg i hi]; exact a)⟩
end
end Go.Proofs.Qxb6500895a
