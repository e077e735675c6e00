import Derived.Test.Qxb6500893aDoorA17
namespace Go.Proofs.Qxb6500893aDoor
open Go.Sh Go.RowKit
set_option linter.unusedVariables false
set_option linter.unusedSimpArgs false

/-! ### the whole state, purely -/
def cutW (ws : Nat → Nat) (a n : Nat) : List Nat := (List.range n).map (fun i => ws (a + i))
def lenS (L : List Lb) : Nat := (L.map (fun x => x.ws.length)).sum
def usedS (ws : Nat → Nat) (T : Tb) : Nat := (T.ps.map (fun sh => ws (sh.ctl + 2) * sh.bw)).sum
structure PInv (ws : Nat → Nat) (T : Tb) (L : List Lb) (F : Nat → List Nat) : Prop where
  pool : ∀ i (hi : i < T.ps.length), PoolOk ws T.ps[i] (F i)
  live : ∀ x ∈ L, ∃ i, ∃ hi : i < T.ps.length, ∃ j, x.pool = (i : Int) ∧ j < T.ps[i].n ∧ j ∉ F i ∧ x.at_ = T.ps[i].bk j ∧ x.ws = cutW ws x.at_ T.ps[i].bw
  all : ∀ i (hi : i < T.ps.length) j, j < T.ps[i].n → j ∉ F i → ∃ x ∈ L, x.at_ = T.ps[i].bk j
  nd : (L.map (·.at_)).Nodup
  sum : usedS ws T = lenS L

section
variable {ws ws' : Nat → Nat} {T : Tb} {L : List Lb} {F : Nat → List Nat} {A : Ar} {i j k a n : Nat}
theorem apart (ok : T.Ok) (hi : i < T.ps.length) (hk : k < T.ps.length) (hne : i ≠ k) : T.ps[i].fin ≤ T.ps[k].ctl ∨ T.ps[k].fin ≤ T.ps[i].ctl := by
  have h := List.pairwise_iff_getElem.1 ok.srt
  rcases Nat.lt_or_gt_of_ne hne with q | q
  · exact .inl (h i k hi hk q)
  · exact .inr (h k i hk hi q)
theorem blk (hok : T.ps[i]?.isSome) : True := trivial
/-- a block lies behind the words of its pool -/
theorem bk_in {sh : Shp} (hok : sh.Ok) {t : Nat} (hj : j < sh.n) (ht : t < sh.bw) : sh.fst ≤ sh.bk j + t ∧ sh.bk j + t < sh.fin := by
  have := bk_le sh hok hj
  have : sh.fst ≤ sh.bk j := bk_ge
  omega
theorem cutW_eq (h : ∀ t, t < n → ws' (a + t) = ws (a + t)) : cutW ws' a n = cutW ws a n := by
  unfold cutW
  exact List.map_congr_left (fun t ht => h t (List.mem_range.1 ht))
theorem cutW_len : (cutW ws a n).length = n := by simp [cutW]
/-- two blocks of the same place are the same -/
theorem same_blk (ok : T.Ok) (hi : i < T.ps.length) (hk : k < T.ps.length) {j l t u : Nat} (hj : j < T.ps[i].n) (hl : l < T.ps[k].n) (ht : t < T.ps[i].bw) (hu : u < T.ps[k].bw) (e : T.ps[i].bk j + t = T.ps[k].bk l + u) : i = k ∧ j = l := by
  have h1 := (ok.sh _ (List.getElem_mem hi)).1
  have h2 := (ok.sh _ (List.getElem_mem hk)).1
  have b1 := bk_in h1 hj ht
  have b2 := bk_in h2 hl hu
  have f1 := fst_ge h1
  have f2 := fst_ge h2
  by_cases hne : i = k
  · subst hne
    exact ⟨rfl, bk_inj h1 e ht hu⟩
  · rcases apart ok hi hk hne with q | q <;> omega
theorem sum_at {α : Type} (f f' : α → Nat) : ∀ (l : List α) (i : Nat) (hi : i < l.length), (∀ k (hk : k < l.length), k ≠ i → f' l[k] = f l[k]) → (l.map f').sum + f l[i] = (l.map f).sum + f' l[i]
  | [], i, hi, _ => by simp at hi
  | x :: l, 0, hi, h => by
    have e : l.map f' = l.map f := List.map_congr_left (fun y hy => by
      obtain ⟨k, hk, rfl⟩ := List.getElem_of_mem hy
      exact h (k + 1) (by simpa using hk) (by omega))
    simp only [List.map_cons, List.sum_cons, List.getElem_cons_zero, e]
    omega
  | x :: l, i + 1, hi, h => by
    have e := sum_at f f' l i (by simpa using hi) (fun k hk hne => h (k + 1) (by simpa using hk) (by omega))
    have e0 : f' x = f x := h 0 (by simp) (by omega)
    simp only [List.map_cons, List.sum_cons, List.getElem_cons_succ, e0]
    omega
/-- one pool changes -/
theorem PInv.one (ok : T.Ok) (h : PInv ws T L F) (hi : i < T.ps.length) {F' : List Nat} (hp : PoolOk ws' T.ps[i] F') (hout : ∀ a, (a < T.ps[i].ctl ∨ T.ps[i].fin ≤ a) → ws' a = ws a) : ∀ k (hk : k < T.ps.length), PoolOk ws' T.ps[k] (upd F i F' k) := by
  intro k hk
  by_cases e : k = i
  · subst e; rw [updN]; exact hp
  · rw [updO e]
    have hok := (ok.sh _ (List.getElem_mem hk)).1
    have hf := hok.fin
    have hb := hok.bw1
    have := fst_ge hok
    have ap := apart ok hi hk (Ne.symm e)
    refine (h.pool k hk).frame hok (fun a h1 h2 => hout a (by omega)) (fun l hl => hout _ ?_)
    have := bk_in hok (t := 0) ((h.pool k hk).lt l hl) (by omega)
    omega
theorem used_one (ok : T.Ok) (hi : i < T.ps.length) (hout : ∀ a, (a < T.ps[i].ctl ∨ T.ps[i].fin ≤ a) → ws' a = ws a) : usedS ws' T + ws (T.ps[i].ctl + 2) * T.ps[i].bw = usedS ws T + ws' (T.ps[i].ctl + 2) * T.ps[i].bw := by
  refine sum_at (fun sh => ws (sh.ctl + 2) * sh.bw) (fun sh => ws' (sh.ctl + 2) * sh.bw) T.ps i hi (fun k hk hne => ?_)
  have hok := (ok.sh _ (List.getElem_mem hk)).1
  have := fst_ge hok
  have := hok.fin
  have ap := apart ok hi hk (Ne.symm hne)
  show ws' (T.ps[k].ctl + 2) * _ = ws (T.ps[k].ctl + 2) * _
  rw [hout _ (by omega)]
theorem PInv.open (A : Ar) (b n : Nat) : PInv A.ws (openT b n) [] (fun _ => []) :=
  ⟨fun i hi => absurd hi (Nat.not_lt_zero _), fun x hx => (by cases hx), fun i hi => absurd hi (Nat.not_lt_zero _), List.nodup_nil, rfl⟩
theorem PInv.create (ok : T.Ok) (h : PInv ws T L F) {bw n : Nat} (hok : (crSh T bw n).Ok) {A : Ar} (hA : A.ws = ws) : PInv (fmtF A (crSh T bw n)).ws (crT T (crSh T bw n)) L (upd F T.ps.length (List.range n)) := by
  obtain ⟨hp, hout, e2, e3, e4, _⟩ := fmt_ok (A := A) hok
  have hctl : (crSh T bw n).ctl = T.next := rfl
  have olds : ∀ k (hk : k < T.ps.length), T.ps[k].Ok ∧ T.ps[k].fin ≤ T.next := fun k hk => ⟨(ok.sh _ (List.getElem_mem hk)).1, (ok.sh _ (List.getElem_mem hk)).2.2⟩
  have hget : ∀ k (hk : k < T.ps.length), (crT T (crSh T bw n)).ps[k]'(by simp [crT]; omega) = T.ps[k] := fun k hk => by simp [crT, List.getElem_append_left hk]
  have same : ∀ a, a < T.next → (fmtF A (crSh T bw n)).ws a = ws a := fun a ha => by rw [hout a (.inl (by rw [hctl]; exact ha)), hA]
  have hlen : (crT T (crSh T bw n)).ps.length = T.ps.length + 1 := by simp [crT]
  refine ⟨fun k hk => ?_, fun x hx => ?_, fun k hk j hj hn => ?_, h.nd, ?_⟩
  · by_cases e : k = T.ps.length
    · subst e
      rw [updN]
      have : (crT T (crSh T bw n)).ps[T.ps.length] = crSh T bw n := by simp [crT]
      rw [this]
      exact hp
    · have hk' : k < T.ps.length := by omega
      rw [updO e, hget k hk']
      obtain ⟨o1, o2⟩ := olds k hk'
      have := fst_ge o1
      have := o1.fin
      have := o1.bw1
      refine (h.pool k hk').frame o1 (fun a h1 h2 => same a (by omega)) (fun l hl => same _ ?_)
      have := bk_in o1 (t := 0) ((h.pool k hk').lt l hl) (by omega)
      omega
  · obtain ⟨k, hk, j, x1, x2, x3, x4, x5⟩ := h.live x hx
    obtain ⟨o1, o2⟩ := olds k hk
    refine ⟨k, by omega, j, x1, by rw [hget k hk]; exact x2, by rw [updO (by omega)]; exact x3, by rw [hget k hk]; exact x4, ?_⟩
    rw [hget k hk, x5, x4]
    refine (cutW_eq fun t ht => same _ ?_).symm
    have := bk_in o1 x2 ht
    omega
  · by_cases e : k = T.ps.length
    · subst e
      have : (crT T (crSh T bw n)).ps[T.ps.length] = crSh T bw n := by simp [crT]
      rw [this] at hj
      rw [updN] at hn
      exact absurd (List.mem_range.2 hj) hn
    · have hk' : k < T.ps.length := by omega
      rw [updO e] at hn
      rw [hget k hk'] at hj ⊢
      exact h.all k hk' j hj hn
  · have : usedS (fmtF A (crSh T bw n)).ws (crT T (crSh T bw n)) = usedS ws T := by
      unfold usedS crT
      rw [List.map_append, List.sum_append]
      have e : T.ps.map (fun sh => (fmtF A (crSh T bw n)).ws (sh.ctl + 2) * sh.bw) = T.ps.map (fun sh => ws (sh.ctl + 2) * sh.bw) := List.map_congr_left (fun sh hsh => by
        obtain ⟨k, hk, rfl⟩ := List.getElem_of_mem hsh
        obtain ⟨o1, o2⟩ := olds k hk
        have := fst_ge o1
        have := o1.fin
        show (fmtF A (crSh T bw n)).ws (T.ps[k].ctl + 2) * _ = _
        rw [same _ (by omega)])
      rw [e]
      simp [e2]
    rw [this]; exact h.sum
/-- the words of the blocks in use, and of no free list, do not matter to the pools -/
theorem PInv.alloc (ok : T.Ok) (h : PInv A.ws T L F) (hi : i < T.ps.length) {F' : List Nat} (hF : F i = j :: F') (nb : Nat) : PInv (allocF A T.ps[i]).2.2.ws T (L ++ [⟨(i : Int), T.ps[i].bk j, nb, cutW (allocF A T.ps[i]).2.2.ws (T.ps[i].bk j) T.ps[i].bw⟩]) (upd F i F') := by
  have hok := (ok.sh _ (List.getElem_mem hi)).1
  have hp := h.pool i hi
  rw [hF] at hp
  obtain ⟨_, _, p1, hout, _, hpk, _⟩ := hp.alloc hok
  have hj := hp.lt j (List.mem_cons_self ..)
  have hnd := List.nodup_cons.1 hp.nd
  have hfst := fst_ge hok
  have hfin := hok.fin
  have hbw := hok.bw1
  have same : ∀ k (hk : k < T.ps.length) l t, l < T.ps[k].n → t < T.ps[k].bw → (allocF A T.ps[i]).2.2.ws (T.ps[k].bk l + t) = A.ws (T.ps[k].bk l + t) := by
    intro k hk l t hl ht
    have o2 := (ok.sh _ (List.getElem_mem hk)).1
    have b2 := bk_in o2 hl ht
    have := fst_ge o2
    by_cases e : i = k
    · subst e; exact hout _ (.inr b2.1)
    · have ap := apart ok hi hk e
      exact hout _ (by omega)
  refine ⟨h.one ok hi p1 (fun a ha => hout a (by omega)), fun x hx => ?_, fun k hk l hl hn => ?_, ?_, ?_⟩
  · rcases List.mem_append.1 hx with hx | hx
    · obtain ⟨k, hk, l, x1, x2, x3, x4, x5⟩ := h.live x hx
      refine ⟨k, hk, l, x1, x2, ?_, x4, ?_⟩
      · by_cases e : k = i
        · subst e; rw [updN]; rw [hF] at x3; exact fun q => x3 (List.mem_cons_of_mem _ q)
        · rw [updO e]; exact x3
      · rw [x5, x4]; exact (cutW_eq fun t ht => same k hk l t x2 ht).symm
    · rw [List.mem_singleton] at hx
      subst hx
      exact ⟨i, hi, j, rfl, hj, by rw [updN]; exact hnd.1, rfl, rfl⟩
  · by_cases e : k = i
    · subst e
      rw [updN] at hn
      by_cases e : l = j
      · subst e; exact ⟨_, List.mem_append_right _ (List.mem_singleton.2 rfl), rfl⟩
      · obtain ⟨x, hx, e'⟩ := h.all k hk l hl (by rw [hF]; exact fun q => by rcases List.mem_cons.1 q with q | q; exact e q; exact hn q)
        exact ⟨x, List.mem_append_left _ hx, e'⟩
    · rw [updO e] at hn
      obtain ⟨x, hx, e'⟩ := h.all k hk l hl hn
      exact ⟨x, List.mem_append_left _ hx, e'⟩
  · rw [List.map_append, List.nodup_append]
    refine ⟨h.nd, by simp, fun a ha b hb => ?_⟩
    rw [List.mem_map] at ha
    obtain ⟨x, hx, rfl⟩ := ha
    simp only [List.map_cons, List.map_nil, List.mem_singleton] at hb
    subst hb
    obtain ⟨k, hk, l, x1, x2, x3, x4, x5⟩ := h.live x hx
    intro e
    have o2 := (ok.sh _ (List.getElem_mem hk)).1
    have := same_blk ok hk hi (t := 0) (u := 0) x2 hj (by have := o2.bw1; omega) (by omega) (by omega)
    obtain ⟨rfl, rfl⟩ := this
    rw [hF] at x3
    exact x3 (List.mem_cons_self ..)
  · have hs := used_one (ws := A.ws) (ws' := (allocF A T.ps[i]).2.2.ws) ok hi (fun a ha => hout a (by omega))
    have hu1 := p1.used
    have hu2 := hp.used
    rw [List.length_cons] at hu2
    have e : (allocF A T.ps[i]).2.2.ws (T.ps[i].ctl + 2) = A.ws (T.ps[i].ctl + 2) + 1 := by omega
    rw [e, Nat.add_mul, Nat.one_mul] at hs
    have hl : lenS (L ++ [⟨(i : Int), T.ps[i].bk j, nb, cutW (allocF A T.ps[i]).2.2.ws (T.ps[i].bk j) T.ps[i].bw⟩]) = lenS L + T.ps[i].bw := by
      unfold lenS; rw [List.map_append, List.sum_append]; simp [cutW_len]
    rw [hl, ← h.sum]
    omega

/-! ### forgetting -/
theorem forget_cons (x : Lb) (L : List Lb) (a : Nat) : forgetL (x :: L) a = if x.at_ = a then L else x :: forgetL L a := by
  unfold forgetL
  rw [List.findIdx?_cons]
  by_cases h : x.at_ = a
  · simp [h]
  · have e : (x.at_ == a) = false := by simpa using h
    rw [if_neg h, e]
    cases h' : L.findIdx? (fun x => x.at_ == a) <;> simp
theorem forget_iff {y : Lb} : ∀ {L : List Lb}, (L.map (·.at_)).Nodup → (y ∈ forgetL L a ↔ y ∈ L ∧ y.at_ ≠ a)
  | [], _ => by simp [forgetL]
  | x :: L, hn => by
    rw [List.map_cons, List.nodup_cons] at hn
    have ih := forget_iff (y := y) (L := L) hn.2
    rw [forget_cons]
    by_cases h : x.at_ = a
    · rw [if_pos h, List.mem_cons]
      constructor
      · intro q
        exact ⟨.inr q, fun e => hn.1 (by rw [h, ← e]; exact List.mem_map_of_mem q)⟩
      · rintro ⟨q | q, e⟩
        · subst q; exact absurd h e
        · exact q
    · rw [if_neg h, List.mem_cons, List.mem_cons, ih]
      constructor
      · rintro (q | q)
        · subst q; exact ⟨.inl rfl, h⟩
        · exact ⟨.inr q.1, q.2⟩
      · rintro ⟨q | q, e⟩
        · exact .inl q
        · exact .inr ⟨q, e⟩
theorem forget_sum {x0 : Lb} : ∀ {L : List Lb}, (L.map (·.at_)).Nodup → x0 ∈ L → x0.at_ = a → lenS (forgetL L a) + x0.ws.length = lenS L
  | [], _, h, _ => by cases h
  | x :: L, hn, h0, e0 => by
    rw [List.map_cons, List.nodup_cons] at hn
    rw [forget_cons]
    by_cases h : x.at_ = a
    · rw [if_pos h]
      have : x0 = x := by
        rcases List.mem_cons.1 h0 with q | q
        · exact q
        · exact absurd (by rw [h, ← e0]; exact List.mem_map_of_mem q) hn.1
      subst this
      unfold lenS
      simp
      omega
    · rw [if_neg h]
      have q : x0 ∈ L := by
        rcases List.mem_cons.1 h0 with q | q
        · subst q; exact absurd e0 h
        · exact q
      have ih := forget_sum hn.2 q e0
      unfold lenS at ih ⊢
      simp only [List.map_cons, List.sum_cons]
      omega
theorem PInv.free (ok : T.Ok) (h : PInv A.ws T L F) (hi : i < T.ps.length) (hj : j < T.ps[i].n) (hn : j ∉ F i) : PInv (freeF A T.ps[i] (T.ps[i].bk j)).2.ws T (forgetL L (T.ps[i].bk j)) (upd F i (j :: F i)) := by
  have hok := (ok.sh _ (List.getElem_mem hi)).1
  have hp := h.pool i hi
  obtain ⟨_, p1, hout, _, _, _⟩ := hp.free hok hj hn
  have hfst := fst_ge hok
  have hfin := hok.fin
  have hbw := hok.bw1
  have bj := bk_in hok (t := 0) hj (by omega)
  have hout' : ∀ a, (a < T.ps[i].ctl ∨ T.ps[i].fin ≤ a) → (freeF A T.ps[i] (T.ps[i].bk j)).2.ws a = A.ws a := fun a ha => hout a (by omega) (by omega)
  have same : ∀ k (hk : k < T.ps.length) l t, l < T.ps[k].n → t < T.ps[k].bw → T.ps[k].bk l ≠ T.ps[i].bk j → (freeF A T.ps[i] (T.ps[i].bk j)).2.ws (T.ps[k].bk l + t) = A.ws (T.ps[k].bk l + t) := by
    intro k hk l t hl ht hne
    have o2 := (ok.sh _ (List.getElem_mem hk)).1
    have b2 := bk_in o2 hl ht
    have := fst_ge o2
    have hne' : T.ps[k].bk l + t ≠ T.ps[i].bk j := by
      intro e
      obtain ⟨rfl, rfl⟩ := same_blk ok hk hi (u := 0) hl hj ht (by omega) (by omega)
      exact hne rfl
    by_cases e : i = k
    · subst e; exact hout _ (.inr b2.1) hne'
    · have ap := apart ok hi hk e
      exact hout _ (by omega) hne'
  obtain ⟨x0, hx0, e0⟩ := h.all i hi j hj hn
  refine ⟨h.one ok hi p1 hout', fun x hx => ?_, fun k hk l hl hnl => ?_, ?_, ?_⟩
  · obtain ⟨hx, hne⟩ := (forget_iff h.nd).1 hx
    obtain ⟨k, hk, l, x1, x2, x3, x4, x5⟩ := h.live x hx
    refine ⟨k, hk, l, x1, x2, ?_, x4, ?_⟩
    · by_cases e : k = i
      · subst e
        rw [updN]
        intro q
        rcases List.mem_cons.1 q with q | q
        · subst q; exact hne x4
        · exact x3 q
      · rw [updO e]; exact x3
    · rw [x5, x4]; exact (cutW_eq fun t ht => same k hk l t x2 ht (by rw [← x4]; exact hne)).symm
  · have hold : l ∉ F k := by
      by_cases e : k = i
      · subst e; rw [updN] at hnl; exact fun q => hnl (List.mem_cons_of_mem _ q)
      · rw [updO e] at hnl; exact hnl
    obtain ⟨x, hx, ex⟩ := h.all k hk l hl hold
    refine ⟨x, (forget_iff h.nd).2 ⟨hx, fun q => ?_⟩, ex⟩
    have o2 := (ok.sh _ (List.getElem_mem hk)).1
    obtain ⟨rfl, rfl⟩ := same_blk ok hk hi (t := 0) (u := 0) hl hj (by have := o2.bw1; omega) (by omega) (by omega)
    rw [updN] at hnl
    exact hnl (List.mem_cons_self ..)
  · exact h.nd.sublist (forget_sub.map _)
  · have hs := used_one (ws := A.ws) (ws' := (freeF A T.ps[i] (T.ps[i].bk j)).2.ws) ok hi hout'
    have hu1 := p1.used
    have hu2 := hp.used
    rw [List.length_cons] at hu1
    have e : A.ws (T.ps[i].ctl + 2) = (freeF A T.ps[i] (T.ps[i].bk j)).2.ws (T.ps[i].ctl + 2) + 1 := by omega
    rw [e, Nat.add_mul, Nat.one_mul] at hs
    have hl := forget_sum h.nd hx0 e0
    obtain ⟨k, hk, l, x1, x2, x3, x4, x5⟩ := h.live x0 hx0
    have o2 := (ok.sh _ (List.getElem_mem hk)).1
    have hlen : x0.ws.length = T.ps[k].bw := by rw [x5, cutW_len]
    obtain ⟨rfl, rfl⟩ := same_blk ok hk hi (t := 0) (u := 0) x2 hj (by have := o2.bw1; omega) (by omega) (by omega)
    have := h.sum
    omega
/-- a block's own word changes -/
theorem PInv.poke (ok : T.Ok) (h : PInv ws T L F) {p t v : Nat} (hp : p < L.length) (ht : t < L[p].ws.length) : PInv (upd ws (L[p].at_ + t) v) T (L.set p { L[p] with ws := L[p].ws.set t v }) F := by
  obtain ⟨i, hi, j, x1, x2, x3, x4, x5⟩ := h.live _ (List.getElem_mem hp)
  have hok := (ok.sh _ (List.getElem_mem hi)).1
  have hlen : L[p].ws.length = T.ps[i].bw := by rw [x5, cutW_len]
  have ht' : t < T.ps[i].bw := by omega
  have bj := bk_in hok x2 ht'
  have eat : ∀ {p' : Nat} (hp' : p' < L.length), (L.set p { L[p] with ws := L[p].ws.set t v })[p']'(by simpa using hp') = if p = p' then { L[p] with ws := L[p].ws.set t v } else L[p'] := fun hp' => by rw [List.getElem_set]
  have mp : (L.set p { L[p] with ws := L[p].ws.set t v }).map (·.at_) = L.map (·.at_) := by
    rw [List.map_set]
    have : ({ L[p] with ws := L[p].ws.set t v } : Lb).at_ = (L.map (·.at_))[p]'(by simpa using hp) := by simp
    rw [this, List.set_getElem_self]
  have ml : (L.set p { L[p] with ws := L[p].ws.set t v }).map (fun x => x.ws.length) = L.map (fun x => x.ws.length) := by
    rw [List.map_set]
    have : ({ L[p] with ws := L[p].ws.set t v } : Lb).ws.length = (L.map (fun x => x.ws.length))[p]'(by simpa using hp) := by simp
    rw [this, List.set_getElem_self]
  have other : ∀ a, (∀ k (hk : k < T.ps.length), a ≠ T.ps[i].bk j + t) → True := fun _ _ => trivial
  have ctls : ∀ k (hk : k < T.ps.length) a, T.ps[k].ctl ≤ a → a < T.ps[k].fst → upd ws (L[p].at_ + t) v a = ws a := by
    intro k hk a h1 h2
    refine updO (fun e => ?_)
    have o2 := (ok.sh _ (List.getElem_mem hk)).1
    have := fst_ge hok
    have := o2.fin
    by_cases e' : i = k
    · subst e'; omega
    · have := apart ok hi hk e'; omega
  have blks : ∀ k (hk : k < T.ps.length) l u, l < T.ps[k].n → u < T.ps[k].bw → ¬ (k = i ∧ l = j) → upd ws (L[p].at_ + t) v (T.ps[k].bk l + u) = ws (T.ps[k].bk l + u) := by
    intro k hk l u hl hu hne
    refine updO (fun e => hne ?_)
    exact same_blk ok hk hi hl x2 hu ht' (by omega)
  refine ⟨fun k hk => ?_, fun x hx => ?_, fun k hk l hl hn => ?_, by rw [mp]; exact h.nd, ?_⟩
  · have o2 := (ok.sh _ (List.getElem_mem hk)).1
    refine (h.pool k hk).frame o2 (ctls k hk) (fun l hl => ?_)
    have := blks k hk l 0 ((h.pool k hk).lt l hl) (by have := o2.bw1; omega) (fun ⟨e1, e2⟩ => by subst e1; subst e2; exact x3 hl)
    simpa using this
  · obtain ⟨p', hp', rfl⟩ := List.getElem_of_mem hx
    rw [List.length_set] at hp'
    rw [eat hp']
    by_cases e : p = p'
    · subst e
      rw [if_pos rfl]
      refine ⟨i, hi, j, x1, x2, x3, x4, ?_⟩
      show L[p].ws.set t v = cutW (upd ws (L[p].at_ + t) v) L[p].at_ T.ps[i].bw
      conv => lhs; rw [x5]
      unfold cutW
      apply List.ext_getElem?
      intro q
      rw [List.getElem?_set, List.getElem?_map, List.getElem?_map]
      by_cases hq : q < T.ps[i].bw
      · rw [List.getElem?_range hq]
        by_cases e : t = q
        · subst e; simp [hq, updN]
        · have : L[p].at_ + q ≠ L[p].at_ + t := by omega
          simp [e, updO this]
      · rw [List.getElem?_eq_none (by simp; omega)]
        by_cases e : t = q
        · omega
        · simp [e]
    · rw [if_neg e]
      obtain ⟨k, hk, l, y1, y2, y3, y4, y5⟩ := h.live _ (List.getElem_mem hp')
      refine ⟨k, hk, l, y1, y2, y3, y4, ?_⟩
      rw [y5, y4]
      refine (cutW_eq fun u hu => blks k hk l u y2 hu (fun ⟨e1, e2⟩ => e ?_)).symm
      subst e1; subst e2
      have nd := List.pairwise_iff_getElem.1 h.nd
      rcases Nat.lt_trichotomy p p' with q | q | q
      · exact absurd (show (L.map (·.at_))[p]'(by simpa using hp) = (L.map (·.at_))[p']'(by simpa using hp') by rw [List.getElem_map, List.getElem_map, x4, y4]) (nd p p' (by simpa using hp) (by simpa using hp') q)
      · exact q
      · exact absurd (show (L.map (·.at_))[p']'(by simpa using hp') = (L.map (·.at_))[p]'(by simpa using hp) by rw [List.getElem_map, List.getElem_map, x4, y4]) (nd p' p (by simpa using hp') (by simpa using hp) q)
  · obtain ⟨x, hx, e⟩ := h.all k hk l hl hn
    have : x.at_ ∈ (L.set p { L[p] with ws := L[p].ws.set t v }).map (·.at_) := by rw [mp]; exact List.mem_map_of_mem hx
    rw [List.mem_map] at this
    obtain ⟨y, hy, ey⟩ := this
    exact ⟨y, hy, by rw [ey, e]⟩
  · have e1 : usedS (upd ws (L[p].at_ + t) v) T = usedS ws T := by
      unfold usedS
      congr 1
      refine List.map_congr_left (fun sh hsh => ?_)
      obtain ⟨k, hk, rfl⟩ := List.getElem_of_mem hsh
      have o2 := (ok.sh _ (List.getElem_mem hk)).1
      have := fst_ge o2
      rw [ctls k hk _ (by omega) (by omega)]
    have e2 : lenS (L.set p { L[p] with ws := L[p].ws.set t v }) = lenS L := by unfold lenS; rw [ml]
    rw [e1, e2]; exact h.sum
end
end Go.Proofs.Qxb6500893aDoor
