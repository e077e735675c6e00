/-
  heap sort, purely.
-/
import Derived.Test.Qxb6500895aD2
namespace Go.Proofs.Qxb6500895a
set_option linter.unusedVariables false
set_option linter.unusedSimpArgs false

def swp (g : Nat → Int) (i j : Nat) : Nat → Int := fun k => if k = i then g j else if k = j then g i else g k
def Ch (c i : Nat) : Prop := c = 2 * i + 1 ∨ c = 2 * i + 2
/-- a heap from lo on, but for the place r -/
structure Hp (n : Nat) (g : Nat → Int) (lo r : Nat) : Prop where
  ok : ∀ i c, lo ≤ i → i ≠ r → Ch c i → c < n → g c ≤ g i
  up : ∀ p c, lo ≤ p → Ch r p → Ch c r → c < n → g c ≤ g p
def Heap (n : Nat) (g : Nat → Int) (lo : Nat) : Prop := ∀ i c, lo ≤ i → Ch c i → c < n → g c ≤ g i
/-- the same numbers in another order; nothing beyond n changes -/
structure Rel (n : Nat) (g g' : Nat → Int) : Prop where
  out : ∀ k, n ≤ k → g' k = g k
  per : ∃ p q : Nat → Nat, (∀ k, k < n → p k < n ∧ q k < n ∧ q (p k) = k ∧ p (q k) = k) ∧ ∀ k, k < n → g' k = g (p k)

theorem Rel.refl (n : Nat) (g : Nat → Int) : Rel n g g := ⟨fun _ _ => rfl, id, id, fun k h => ⟨h, h, rfl, rfl⟩, fun _ _ => rfl⟩
theorem Rel.trans {n : Nat} {g g' g'' : Nat → Int} (h : Rel n g g') (h' : Rel n g' g'') : Rel n g g'' := by
  obtain ⟨o, p, q, e1, e2⟩ := h
  obtain ⟨o', p', q', e1', e2'⟩ := h'
  refine ⟨fun k hk => (o' k hk).trans (o k hk), fun k => p (p' k), fun k => q' (q k), fun k hk => ?_, fun k hk => ?_⟩
  · obtain ⟨a1, a2, a3, a4⟩ := e1' k hk
    obtain ⟨b1, b2, b3, b4⟩ := e1 (p' k) a1
    obtain ⟨c1, c2, c3, c4⟩ := e1 k hk
    obtain ⟨d1, d2, d3, d4⟩ := e1' (q k) c2
    exact ⟨b1, d2, by simp only [b3, a3], by simp only [d4, c4]⟩
  · rw [e2' k hk, e2 _ (e1' k hk).1]
theorem Rel.mono {n m : Nat} {g g' : Nat → Int} (h : Rel n g g') (hm : n ≤ m) : Rel m g g' := by
  obtain ⟨o, p, q, e1, e2⟩ := h
  refine ⟨fun k hk => o k (by omega), fun k => if k < n then p k else k, fun k => if k < n then q k else k, fun k hk => ?_, fun k hk => ?_⟩
  · by_cases c : k < n
    · obtain ⟨a1, a2, a3, a4⟩ := e1 k c
      simp only [if_pos c, if_pos a1, if_pos a2]
      exact ⟨by omega, by omega, a3, a4⟩
    · simp only [if_neg c]
      exact ⟨hk, hk, trivial, trivial⟩
  · by_cases c : k < n
    · simp only [if_pos c]; exact e2 k c
    · simp only [if_neg c]; exact o k (by omega)
theorem rel_swp {n i j : Nat} {g : Nat → Int} (hi : i < n) (hj : j < n) : Rel n g (swp g i j) := by
  refine ⟨fun k hk => ?_, fun k => if k = i then j else if k = j then i else k, fun k => if k = i then j else if k = j then i else k, fun k hk => ?_, fun k hk => ?_⟩
  · unfold swp; rw [if_neg (by omega), if_neg (by omega)]
  · by_cases c : k = i
    · subst c
      by_cases e : j = k
      · subst e; simp [hk]
      · simp [hk, hj, e]
    · by_cases c' : k = j
      · subst c'; simp [c, hi, hk]
      · simp [c, c', hk]
  · unfold swp
    by_cases c : k = i
    · simp [c]
    · by_cases c' : k = j
      · subst c'; simp [c]
      · simp [c, c']

/-- the larger child -/
structure Big (n : Nat) (g : Nat → Int) (r c : Nat) : Prop where
  ch : Ch c r
  lt : c < n
  mx : ∀ x, Ch x r → x < n → g x ≤ g c

theorem Hp.step {n lo r c : Nat} {g : Nat → Int} (h : Hp n g lo r) (hb : Big n g r c) (hlo : lo ≤ r) (hr : r < n) (hg : g r < g c) : Hp n (swp g r c) lo c := by
  obtain ⟨hc, hcn, hmx⟩ := hb
  have hrc : r < c := by rcases hc with q | q <;> omega
  have s1 : swp g r c r = g c := by unfold swp; rw [if_pos rfl]
  have s2 : swp g r c c = g r := by unfold swp; rw [if_neg (by omega), if_pos rfl]
  have s3 : ∀ k, k ≠ r → k ≠ c → swp g r c k = g k := fun k h1 h2 => by unfold swp; rw [if_neg h1, if_neg h2]
  refine ⟨fun i x hi hne hx hxn => ?_, fun p x hp hcp hxc hxn => ?_⟩
  · by_cases e : i = r
    · subst e
      rw [s1]
      by_cases e2 : x = c
      · subst e2; rw [s2]; omega
      · rw [s3 x (by rcases hx with q | q <;> omega) e2]; exact hmx x hx hxn
    · rw [s3 i e hne]
      by_cases e2 : x = r
      · subst e2; rw [s1]; exact h.up i c hi hx hc hcn
      · by_cases e3 : x = c
        · subst e3; exact absurd (by rcases hx with q | q <;> rcases hc with q' | q' <;> omega) e
        · rw [s3 x e2 e3]; exact h.ok i x hi e hx hxn
  · have e : p = r := by rcases hcp with q | q <;> rcases hc with q' | q' <;> omega
    subst e
    rw [s1, s3 x (by rcases hxc with q | q <;> omega) (by rcases hxc with q | q <;> omega)]
    exact h.ok c x (by omega) (by omega) hxc hxn
theorem Hp.stop {n lo r : Nat} {g : Nat → Int} (h : Hp n g lo r) (hr : ∀ c, Ch c r → c < n → g c ≤ g r) : Heap n g lo := by
  intro i c hi hc hn
  by_cases e : i = r
  · subst e; exact hr c hc hn
  · exact h.ok i c hi e hc hn
theorem Heap.start {n : Nat} (g : Nat → Int) : Heap n g (n / 2) := by
  intro i c hi hc hn
  exact absurd hn (by rcases hc with q | q <;> omega)
theorem Heap.hp {n r : Nat} {g : Nat → Int} (h : Heap n g (r + 1)) : Hp n g r r :=
  ⟨fun i c hi hne hc hn => h i c (by omega) hc hn, fun p c hp hrp _ _ => absurd hp (by rcases hrp with q | q <;> omega)⟩
theorem Heap.max {n : Nat} {g : Nat → Int} (h : Heap n g 0) : ∀ k, k < n → g k ≤ g 0 := by
  intro k
  induction k using Nat.strongRecOn with
  | _ k ih =>
    intro hk
    by_cases e : k = 0
    · subst e; exact Int.le_refl _
    · exact Int.le_trans (h ((k - 1) / 2) k (by omega) (by unfold Ch; omega) hk) (ih ((k - 1) / 2) (by omega) (by omega))

/-- the second loop -/
structure Srt (n e : Nat) (g : Nat → Int) : Prop where
  heap : Heap (e + 1) g 0
  tail : ∀ i j, i < j → e < j → j < n → g i ≤ g j
theorem Srt.hp {n e : Nat} {g : Nat → Int} (h : Srt n e g) : Hp e (swp g 0 e) 0 0 := by
  refine ⟨fun i c _ hne hc hn => ?_, fun p c _ hrp _ _ => absurd hrp (by unfold Ch; omega)⟩
  have s3 : ∀ k, k ≠ 0 → k ≠ e → swp g 0 e k = g k := fun k h1 h2 => by unfold swp; rw [if_neg h1, if_neg h2]
  rw [s3 i hne (by rcases hc with q | q <;> omega), s3 c (by rcases hc with q | q <;> omega) (by omega)]
  exact h.heap i c (by omega) hc (by omega)
theorem Srt.next {n e : Nat} {g g' : Nat → Int} (h : Srt n (e + 1) g) (hr : Rel (e + 1) (swp g 0 (e + 1)) g') (hh : Heap (e + 1) g' 0) : Srt n e g' := by
  have hmax := h.heap.max
  refine ⟨hh, fun i j hij hej hjn => ?_⟩
  obtain ⟨o, p, q, e1, e2⟩ := hr
  have s0 : swp g 0 (e + 1) (e + 1) = g 0 := by unfold swp; rw [if_neg (by omega), if_pos rfl]
  have sv : ∀ k, k ≤ e + 1 → ∃ m, m ≤ e + 1 ∧ swp g 0 (e + 1) k = g m := by
    intro k hk
    unfold swp
    by_cases c : k = 0
    · exact ⟨e + 1, by omega, by rw [if_pos c]⟩
    · rw [if_neg c]
      by_cases c' : k = e + 1
      · exact ⟨0, by omega, by rw [if_pos c']⟩
      · exact ⟨k, hk, by rw [if_neg c']⟩
  have so : ∀ k, e + 1 < k → swp g 0 (e + 1) k = g k := fun k h1 => by unfold swp; rw [if_neg (by omega), if_neg (by omega)]
  have low : ∀ k, k ≤ e + 1 → ∃ m, m ≤ e + 1 ∧ g' k = g m := by
    intro k hk
    by_cases c : k < e + 1
    · obtain ⟨m, hm, em⟩ := sv (p k) (by have := (e1 k c).1; omega)
      exact ⟨m, hm, by rw [e2 k c, em]⟩
    · obtain ⟨m, hm, em⟩ := sv k hk
      exact ⟨m, hm, by rw [o k (by omega), em]⟩
  by_cases c : j = e + 1
  · subst c
    obtain ⟨m, hm, em⟩ := low i (by omega)
    rw [em, o (e + 1) (by omega), s0]
    exact hmax m (by omega)
  · rw [o j (by omega), so j (by omega)]
    by_cases c2 : i ≤ e + 1
    · obtain ⟨m, hm, em⟩ := low i c2
      rw [em]; exact h.tail m j (by omega) (by omega) hjn
    · rw [o i (by omega), so i (by omega)]; exact h.tail i j hij (by omega) hjn

/-- a list of a function's values -/
def tab (n : Nat) (g : Nat → Int) : List Int := (List.range n).map g
theorem tab_len (n : Nat) (g : Nat → Int) : (tab n g).length = n := by simp [tab]
theorem tab_get {n k : Nat} (g : Nat → Int) (h : k < n) : (tab n g)[k]? = some (g k) := by
  unfold tab; rw [List.getElem?_map, List.getElem?_range h]; rfl
theorem tab_set {n k : Nat} (g : Nat → Int) (x : Int) : (tab n g).set k x = tab n (fun i => if i = k then x else g i) := by
  apply List.ext_getElem?
  intro i
  unfold tab
  rw [List.getElem?_set, List.getElem?_map, List.getElem?_map]
  by_cases hi : i < n
  · rw [List.getElem?_range hi]
    by_cases e : k = i
    · subst e; simp [hi]
    · simp [e, Ne.symm e]
  · rw [List.getElem?_eq_none (by simp; omega)]
    by_cases e : k = i
    · subst e; simp [hi]
    · simp [e]
theorem tab_of (xs : List Int) : xs = tab xs.length (fun k => xs.getD k 0) := by
  apply List.ext_getElem?
  intro i
  by_cases h : i < xs.length
  · rw [tab_get _ h, List.getElem?_eq_getElem h]; simp [List.getD, List.getElem?_eq_getElem h]
  · rw [List.getElem?_eq_none (by omega), List.getElem?_eq_none (by rw [tab_len]; omega)]

/-- strictly rising lists with the same members are equal -/
theorem rise_eq : ∀ (a b : List Int), a.Pairwise (· < ·) → b.Pairwise (· < ·) → (∀ x, x ∈ a ↔ x ∈ b) → a = b
  | [], [], _, _, _ => rfl
  | [], y :: ys, _, _, h => absurd ((h y).2 (by simp)) (by simp)
  | x :: xs, [], _, _, h => absurd ((h x).1 (by simp)) (by simp)
  | x :: xs, y :: ys, ha, hb, h => by
    rw [List.pairwise_cons] at ha hb
    have e : x = y := by
      rcases List.mem_cons.1 ((h x).1 (by simp)) with q | q
      · exact q
      · rcases List.mem_cons.1 ((h y).2 (by simp)) with q' | q'
        · exact q'.symm
        · have := hb.1 x q; have := ha.1 y q'; omega
    subst e
    rw [rise_eq xs ys ha.2 hb.2 (fun z => ?_)]
    constructor
    · intro hz
      rcases List.mem_cons.1 ((h z).1 (List.mem_cons_of_mem _ hz)) with q | q
      · have := ha.1 z hz; omega
      · exact q
    · intro hz
      rcases List.mem_cons.1 ((h z).2 (List.mem_cons_of_mem _ hz)) with q | q
      · have := hb.1 z hz; omega
      · exact q

/-- what is sorted of a list without doubles -/
theorem sorted_eq {xs : List Int} {g' : Nat → Int} (hnd : xs.Nodup) (hr : Rel xs.length (fun k => xs.getD k 0) g') (hs : ∀ i j, i < j → j < xs.length → g' i ≤ g' j) {ys : List Int} (hy : ys.Pairwise (· < ·)) (hm : ∀ x, x ∈ ys ↔ x ∈ xs) : tab xs.length g' = ys := by
  obtain ⟨_, p, q, e1, e2⟩ := hr
  have gd : ∀ k (h : k < xs.length), xs.getD k 0 = xs[k] := fun k h => by simp [List.getD, List.getElem?_eq_getElem h]
  apply rise_eq _ _ _ hy
  · intro x
    rw [hm]
    unfold tab
    rw [List.mem_map]
    constructor
    · rintro ⟨k, hk, rfl⟩
      rw [List.mem_range] at hk
      have h1 := (e1 k hk).1
      rw [e2 k hk]
      simp only [gd _ h1]
      exact List.getElem_mem h1
    · intro hx
      obtain ⟨k, hk, rfl⟩ := List.getElem_of_mem hx
      obtain ⟨a1, a2, a3, a4⟩ := e1 k hk
      refine ⟨q k, List.mem_range.2 a2, ?_⟩
      rw [e2 _ a2, a4]
      exact gd k hk
  · unfold tab
    rw [List.pairwise_map]
    refine List.Pairwise.imp_of_mem ?_ List.pairwise_lt_range
    intro a b ha hb hab
    rw [List.mem_range] at ha hb
    have h1 := hs a b hab hb
    have h2 : g' a ≠ g' b := by
      intro e
      rw [e2 a ha, e2 b hb] at e
      simp only [gd _ (e1 a ha).1, gd _ (e1 b hb).1] at e
      have this : p a = p b := by
        have hp := List.pairwise_iff_getElem.1 hnd
        rcases Nat.lt_trichotomy (p a) (p b) with c | c | c
        · exact absurd e (hp _ _ (e1 a ha).1 (e1 b hb).1 c)
        · exact c
        · exact absurd e.symm (hp _ _ (e1 b hb).1 (e1 a ha).1 c)
      have t := congrArg q this
      rw [(e1 a ha).2.2.1, (e1 b hb).2.2.1] at t
      omega
    omega
end Go.Proofs.Qxb6500895a
