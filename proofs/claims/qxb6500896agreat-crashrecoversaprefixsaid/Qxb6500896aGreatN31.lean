import Derived.Test.Qxb6500896aGreatN30
namespace Go.Proofs.Qxb6500896aGreat
open Go.Sh Go.RowKit
set_option linter.unusedVariables false
set_option linter.unusedSimpArgs false

section
variable {Q Q' : Sg → Prop} {σ σ' c : Sg} {J J' : Jr} {q : Rq} {bs : List Int} {bss : List (List Int)} {k : Int}
/-- the model's next state is a good one -/
theorem md_gd (g : SGd park c) (hs : c.seq + 1 ≤ 9223372036854775807) : ∃ c', SGd park c' ∧ c'.ms = (mdS bs c).1.ms := by
  unfold mdS
  cases hm : mRead bs with
  | none => exact ⟨c, g, rfl⟩
  | some q =>
    by_cases h9 : q.op ≤ 9
    · rw [mdO_c h9]
      unfold chM
      by_cases hv : valid park c.now q = 0
      · rw [if_pos hv]
        by_cases h0 : (apS park q c).2.code = 0
        · exact ⟨{ (apS park q c).1 with seq := c.seq + 1 }, apS_gd park_cv g hv hs h0, rfl⟩
        · exact ⟨c, g, by show c.ms = (apS park q c).1.ms; rw [apS_no h0]⟩
      · rw [if_neg hv]; exact ⟨c, g, rfl⟩
    · rw [mdO_q h9]; exact ⟨c, g, rfl⟩
/-- one request of a batch -/
theorem stb_step (hC : CoreC Q) (h : RgQ Q σ J) (hl : Jlm 48 72 1200 J) (hB : By bs) (hs : σ.seq + 1 ≤ 9223372036854775807) :
    ((stbS park bs σ J).1.down = false ∧ RgQ (fun s => Q s ∨ s.ms = (mdS bs σ).1.ms) (stbS park bs σ J).1 (stbS park bs σ J).2.1 ∧ eR (stbS park bs σ J).2.2 = (mdS bs σ).2 ∧ (stbS park bs σ J).1.ms = (mdS bs σ).1.ms) ∨
    ((stbS park bs σ J).1.down = true ∧ (stbS park bs σ J).2.1.off = true ∧ RgD (fun s => Q s ∨ s.ms = (mdS bs σ).1.ms) (stbS park bs σ J).2.1) := by
  have hC' : CoreC (fun s => Q s ∨ s.ms = (mdS bs σ).1.ms) := fun a b cc q => q.imp (hC a b cc) fun q => by rw [cc.ms]; exact q
  have h1 := h.stb hC hC' hB hs (fun s q => .inl q) (fun a b cc d s q => .inr ?_)
  · rcases h1 with ⟨d, r1, _⟩ | ⟨d, r1, o, _⟩
    · obtain ⟨e1, e2⟩ := stb_up hC h hl d
      exact .inl ⟨d, r1, e1, e2⟩
    · exact .inr ⟨d, o, r1⟩
  · unfold mdS
    cases hm : mRead bs with
    | none =>
      have := mRead_none hm
      rw [a] at this
      cases this
    | some q' =>
      have hd := mRead_some hm
      rw [hd] at b cc d q
      unfold isC at b
      simp only [Bool.and_eq_true, decide_eq_true_eq] at b
      rw [mdO_c b.2]
      unfold chM
      rw [if_pos cc]
      exact ms_of q.1 q.2.1 q.2.2.1
theorem stbS_dn (hd : σ.down = true) : (stbS park bs σ J).1.down = true ∧ (stbS park bs σ J).2.1 = J := by
  unfold stbS
  rw [if_pos hd]
  exact ⟨by show (refS 19 _).down = true; rw [refS_down]; exact hd, rfl⟩
theorem stbL_dn : ∀ {bss : List (List Int)} {σ : Sg} {J : Jr}, σ.down = true → (stbL park bss σ J).1.down = true ∧ (stbL park bss σ J).2.1 = J
  | [], σ, J, h => ⟨h, rfl⟩
  | b :: l, σ, J, h => by
    obtain ⟨h1, h2⟩ := stbS_dn (bs := b) (J := J) h
    obtain ⟨h3, h4⟩ := stbL_dn (bss := l) (J := (stbS park b σ J).2.1) h1
    rw [stbL]
    exact ⟨h3, by show (stbL park l _ _).2.1 = J; rw [h4, h2]⟩
theorem stb_keep2 (h : GJ k J) (gg : σ.down = false → SGd park σ) (hsq : σ.seq ≤ k) (ht : 0 ≤ σ.tail) (hl : 0 ≤ σ.loose) : Kept k σ ((stbS park bs σ J).1, (stbS park bs σ J).2.1) := by
  unfold stbS
  by_cases hd : σ.down = true
  · rw [if_pos hd]
    exact kept_ref h ht hl rfl rfl
  · rw [if_neg hd]
    have gd := gg (by simpa using hd)
    split
    · rename_i h0
      unfold stgS
      simp only
      rw [if_neg hd]
      have hR := (dec_x h0).rq
      by_cases c0 : xpr (dec bs).1 = false
      · rw [if_pos c0]; exact kept_ref h ht hl rfl rfl
      · rw [if_neg c0]
        have hN := xprN hR (by simpa using c0)
        by_cases c1 : valid park σ.now (dec bs).1 = 0
        · rw [if_pos c1]
          by_cases c2 : isQ (dec bs).1.op = true
          · rw [if_pos c2]
            show Kept k σ ((ansS park (dec bs).1 { σ with sr := w1 σ.sr }).1, J)
            unfold ansS
            split
            · exact ⟨h.mono (by omega), ⟨ht, by show σ.tail ≤ _; omega⟩, hl, by show σ.loose ≤ _; omega⟩
            · exact kept_ref h ht hl rfl rfl
          · rw [if_neg c2]
            have g1 : SGd park { σ with sr := w1 σ.sr } := gd
            exact chg_keep (σ := { σ with sr := w1 σ.sr }) h g1 hsq ht hl hN
        · rw [if_neg c1]; exact kept_ref h ht hl rfl rfl
    · exact kept_ref h ht hl rfl rfl
/-- the counters of a batch -/
structure BG (k : Int) (σ : Sg) (J : Jr) (τ : Sg) (j : Jr) (n : Nat) : Prop where
  gj : GJ (k + ((n : Nat) : Int)) j
  g : τ.down = false → SGd park τ
  s : 0 ≤ τ.seq ∧ τ.seq ≤ k + ((n : Nat) : Int)
  t : 0 ≤ τ.tail ∧ τ.tail ≤ σ.tail + ((n : Nat) : Int)
  l : 0 ≤ τ.loose ∧ τ.loose ≤ σ.loose + ((n : Nat) : Int)
theorem bg (gj : GJ k J) (gs : GS k σ) (hk : k + ((bss.length : Nat) : Int) ≤ 1000000) : ∀ n, n ≤ bss.length → BG k σ J (stbL park (bss.take n) σ J).1 (stbL park (bss.take n) σ J).2.1 n
  | 0, _ => by
    have h1 := gs.s
    have h2 := gs.t
    have h3 := gs.l
    refine ⟨by show GJ (k + ((0 : Nat) : Int)) J; exact gj.mono (by omega), gs.g, by show 0 ≤ σ.seq ∧ σ.seq ≤ k + ((0 : Nat) : Int); omega, ?_, ?_⟩
    · show 0 ≤ σ.tail ∧ σ.tail ≤ σ.tail + ((0 : Nat) : Int); omega
    · show 0 ≤ σ.loose ∧ σ.loose ≤ σ.loose + ((0 : Nat) : Int); omega
  | n + 1, hn => by
    obtain ⟨a1, a2, a3, a4, a5⟩ := bg gj gs hk n (by omega)
    have hnb : n < bss.length := by omega
    rw [List.take_succ_eq_append_getElem hnb, stbL_app]
    simp only
    generalize stbL park (bss.take n) σ J = y at a1 a2 a3 a4 a5 ⊢
    obtain ⟨j1, ⟨t0, t1⟩, l0, l1⟩ := stb_keep2 (bs := bss[n]) a1 a2 a3.2 a4.1 a5.1
    have hq := stbS_q park bss[n] y.1 y.2.1
    have hgd : (stbS park bss[n] y.1 y.2.1).1.down = false → SGd park (stbS park bss[n] y.1 y.2.1).1 := fun h0 => stbS_gd (J := y.2.1) (bs := bss[n]) park_cv a2 (by omega) h0
    simp only at j1 t0 t1 l0 l1
    refine ⟨?_, hgd, by omega, ⟨t0, by omega⟩, ⟨l0, by omega⟩⟩
    rw [show k + ((n : Nat) : Int) + 1 = k + ((n + 1 : Nat) : Int) by omega] at j1
    exact j1
theorem set_keep (gj : GJ k J) (g : σ.down = false → SGd park σ) (sq : 0 ≤ σ.seq ∧ σ.seq ≤ k) (t : 0 ≤ σ.tail ∧ σ.tail ≤ k + 20) (l : 0 ≤ σ.loose ∧ σ.loose ≤ k + 20) : GS k (setS park σ J).1 ∧ GJ k (setS park σ J).2.1 := by
  have hsm := (setS_same park σ J)
  have sq2 : 0 ≤ (setS park σ J).1.seq ∧ (setS park σ J).1.seq ≤ k := by rw [hsm.seq]; exact sq
  unfold setS at hsm sq2 ⊢
  by_cases hd : σ.down = true
  · rw [if_pos hd] at sq2 ⊢
    exact ⟨⟨(fun q => by rw [hd] at q; cases q), (fun q => by rw [hd] at q; cases q), sq2, t, l⟩, gj⟩
  · have hd' : σ.down = false := by simpa using hd
    have gd := g hd'
    rw [if_neg hd] at hsm sq2 ⊢
    by_cases hl0 : σ.loose = 0
    · rw [if_pos hl0] at sq2 ⊢
      exact ⟨⟨fun _ => gd, fun _ => hl0, sq2, t, l⟩, gj⟩
    · rw [if_neg hl0] at hsm sq2 ⊢
      by_cases hc : (comJ J).2 = 0
      · rw [if_pos hc] at hsm sq2 ⊢
        have gd1 : SGd park { σ with loose := 0 } := gd
        have ht := aftS_t (σ := { σ with loose := 0 }) (J := (comJ J).1) t.1 (by show (0 : Int) ≤ 0; decide)
        have e1 : ({ σ with loose := 0 } : Sg).tail = σ.tail ∧ ({ σ with loose := 0 } : Sg).loose = 0 := ⟨rfl, rfl⟩
        rw [e1.1, e1.2] at ht
        refine ⟨⟨fun _ => hsm.gd gd, fun _ => Int.le_antisymm ht.2.2 ht.2.1, sq2, ⟨ht.1.1, Int.le_trans ht.1.2 t.2⟩, ⟨ht.2.1, Int.le_trans ht.2.2 (by omega)⟩⟩, ?_⟩
        exact GJ.aft (σ := { σ with loose := 0 }) gj.com gd1 sq.2
      · rw [if_neg hc] at sq2 ⊢
        exact ⟨⟨fun q => (by cases q), fun q => (by cases q), sq2, t, l⟩, gj.com⟩
/-- the requests of a batch, whatever strikes -/
theorem stbL_f : ∀ {bss : List (List Int)} {σ : Sg} {J : Jr} {Q : Sg → Prop} {k : Int}, CoreC Q → RgQ Q σ J → GJ k J → σ.seq ≤ k → (∀ bs ∈ bss, By bs) → k + ((bss.length : Nat) : Int) ≤ 1000000 →
    ((stbL park bss σ J).1.down = false ∧ RgQ (fun s => Q s ∨ Ch bss σ s) (stbL park bss σ J).1 (stbL park bss σ J).2.1 ∧ Jlm 48 72 1200 (stbL park bss σ J).2.1) ∨ ((stbL park bss σ J).1.down = true ∧ (stbL park bss σ J).2.1.off = true ∧ RgD (fun s => Q s ∨ Ch bss σ s) (stbL park bss σ J).2.1)
  | [], σ, J, Q, k, hC, h, gj, hs, hB, hk => .inl ⟨h.dn, h.mono fun s q => .inl q, gj.jl⟩
  | b :: l, σ, J, Q, k, hC, h, gj, hs, hB, hk => by
    have hby := hB b List.mem_cons_self
    have hBl : ∀ bs ∈ l, By bs := fun x hx => hB x (List.mem_cons_of_mem _ hx)
    rw [List.length_cons] at hk
    have hgs := h.g.seq
    have hgn := h.g.now
    have st := stb_step (bs := b) hC h gj.jl hby (by omega)
    have kp := stb_keep2 (bs := b) gj (fun _ => h.g) hs (by have := h.tl; omega) (by have := h.lo; omega)
    have hq := stbS_q park b σ J
    obtain ⟨c', gc, ec⟩ := md_gd (bs := b) h.g (by omega)
    rw [stbL]
    rcases st with ⟨d, r, e1, e2⟩ | ⟨d, o, r⟩
    · have hC' : CoreC (fun s => Q s ∨ s.ms = (mdS b σ).1.ms) := fun a b cc q => q.imp (hC a b cc) fun q => by rw [cc.ms]; exact q
      have g1 : SGd park (stbS park b σ J).1 := r.g
      have map : ∀ s, (Q s ∨ s.ms = (mdS b σ).1.ms) ∨ Ch l (stbS park b σ J).1 s → Q s ∨ Ch (b :: l) σ s := fun s q => by
        rcases q with (q | q) | q
        · exact .inl q
        · exact .inr (.inr ⟨_, g1, e2, Ch.refl (by rw [e2]; exact q)⟩)
        · exact .inr (.inr ⟨_, g1, e2, q⟩)
      rcases stbL_f (bss := l) hC' r kp.1 (by omega) hBl (by omega) with ⟨d2, r2, l2⟩ | ⟨d2, o2, r2⟩
      · exact .inl ⟨d2, r2.mono map, l2⟩
      · exact .inr ⟨d2, o2, r2.mono map⟩
    · obtain ⟨h3, h4⟩ := stbL_dn (bss := l) (J := (stbS park b σ J).2.1) d
      right
      refine ⟨h3, by show (stbL park l _ _).2.1.off = true; rw [h4]; exact o, ?_⟩
      show RgD _ (stbL park l (stbS park b σ J).1 (stbS park b σ J).2.1).2.1
      rw [h4]
      refine r.mono fun s q => q.imp id fun q => .inr ⟨c', gc, ec, Ch.refl (by rw [ec]; exact q)⟩
/-- a batch, whatever strikes -/
theorem bat_f (h : RgQ (Core σ) σ J) (gj : GJ k J) (gs : GS k σ) (hB : ∀ bs ∈ bss, By bs) (hk : k + ((bss.length : Nat) : Int) ≤ 1000000) :
    (GS (k + ((bss.length : Nat) : Int)) (batS park bss σ J).1 ∧ GJ (k + ((bss.length : Nat) : Int)) (batS park bss σ J).2.1) ∧
    (((batS park bss σ J).1.down = false ∧ RgQ (Core (batS park bss σ J).1) (batS park bss σ J).1 (batS park bss σ J).2.1 ∧ (batS park bss σ J).1.ms = (stbL park bss σ J).1.ms ∧ (batS park bss σ J).2.2 = (stbL park bss σ J).2.2.map eR ∧
      (∀ j (hj : j < bss.length), SGd park (stbL park (bss.take j) σ J).1 ∧ eR (stbS park bss[j] (stbL park (bss.take j) σ J).1 (stbL park (bss.take j) σ J).2.1).2.2 = (mdS bss[j] (stbL park (bss.take j) σ J).1).2 ∧ (stbS park bss[j] (stbL park (bss.take j) σ J).1 (stbL park (bss.take j) σ J).2.1).1.ms = (mdS bss[j] (stbL park (bss.take j) σ J).1).1.ms)) ∨
    ((batS park bss σ J).1.down = true ∧ (batS park bss σ J).2.1.off = true ∧ RgD (Ch bss σ) (batS park bss σ J).2.1 ∧ (batS park bss σ J).2.2 = bss.map fun _ => [19])) := by
  have hC0 : CoreC (Core σ) := fun a b c q => q.trans c
  have hsk := gs.s
  have b0 := bg gj gs hk bss.length (Nat.le_refl _)
  rw [List.take_length] at b0
  have htl := gs.t
  have hll := gs.l
  have hup : ∀ j, j ≤ bss.length → (stbL park (bss.take j) σ J).1.down = true → (stbL park bss σ J).1.down = true := fun j hj hd => by
    have : ∀ n, j + n ≤ bss.length → (stbL park (bss.take (j + n)) σ J).1.down = true := fun n => by
      induction n with
      | zero => intro _; exact hd
      | succ n ih =>
        intro hn
        have hlt : j + n < bss.length := by omega
        rw [show j + (n + 1) = j + n + 1 by omega, List.take_succ_eq_append_getElem hlt, stbL_app]
        exact (stbS_dn (ih (by omega))).1
    have h2 := this (bss.length - j) (by omega)
    rw [show j + (bss.length - j) = bss.length by omega, List.take_length] at h2
    exact h2
  have hsg := h.g.seq
  have hnow := h.g.now
  -- the counters stay small where the engine is up
  have kp : GS (k + ((bss.length : Nat) : Int)) (setS park (stbL park bss σ J).1 (stbL park bss σ J).2.1).1 ∧ GJ (k + ((bss.length : Nat) : Int)) (setS park (stbL park bss σ J).1 (stbL park bss σ J).2.1).2.1 := by
    have h1 := b0.t
    have h2 := b0.l
    exact set_keep b0.gj b0.g b0.s ⟨h1.1, by omega⟩ ⟨h2.1, by omega⟩
  refine ⟨kp, ?_⟩
  have hfin := stbL_f (bss := bss) hC0 h gj hsk.2 hB hk
  have mp : ∀ s, Core σ s ∨ Ch bss σ s → Ch bss σ s := fun s q => q.elim (fun q => Ch.refl q.ms) id
  unfold batS
  simp only
  rcases hfin with ⟨d, r, _⟩ | ⟨d, o, r⟩
  · have hC1 : CoreC (fun s => Core σ s ∨ Ch bss σ s) := fun a b cc q => q.imp (fun q => q.trans cc) (Ch.core a b cc)
    have hsm := setS_same park (stbL park bss σ J).1 (stbL park bss σ J).2.1
    rcases r.set hC1 with ⟨e, d2, r2, l2⟩ | ⟨e, d2, r2, o2⟩
    · left
      refine ⟨d2, r2, hsm.ms, by rw [if_pos e], fun j hj => ?_⟩
      have hdj : (stbL park (bss.take j) σ J).1.down = false := by
        cases hh : (stbL park (bss.take j) σ J).1.down with
        | false => rfl
        | true => rw [hup j (by omega) hh] at d; cases d
      have hdj1 : (stbS park bss[j] (stbL park (bss.take j) σ J).1 (stbL park (bss.take j) σ J).2.1).1.down = false := by
        cases hh : (stbS park bss[j] (stbL park (bss.take j) σ J).1 (stbL park (bss.take j) σ J).2.1).1.down with
        | false => rfl
        | true =>
          have := hup (j + 1) (by omega) (by rw [List.take_succ_eq_append_getElem hj, stbL_app]; exact hh)
          rw [this] at d; cases d
      have hBj : ∀ bs ∈ bss.take j, By bs := fun x hx => hB x (List.mem_of_mem_take hx)
      have hlj : (bss.take j).length = j := by rw [List.length_take]; omega
      rcases stbL_f (bss := bss.take j) hC0 h gj hsk.2 hBj (by omega) with ⟨_, rj, lj⟩ | ⟨dj, _⟩
      · have hCj : CoreC (fun s => Core σ s ∨ Ch (bss.take j) σ s) := fun a b cc q => q.imp (fun q => q.trans cc) (Ch.core a b cc)
        exact ⟨rj.g, stb_up hCj rj lj hdj1⟩
      · rw [hdj] at dj; cases dj
    · right
      exact ⟨d2, o2, r2.mono mp, by rw [if_neg (by rw [e]; decide)]⟩
  · right
    have e : setS park (stbL park bss σ J).1 (stbL park bss σ J).2.1 = ((stbL park bss σ J).1, (stbL park bss σ J).2.1, 19) := by unfold setS; rw [if_pos d]
    rw [e]
    exact ⟨d, o, r.mono mp, by rw [if_neg (show ¬ (19 : Int) = 0 by decide)]⟩
end
end Go.Proofs.Qxb6500896aGreat
