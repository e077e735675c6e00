import Derived.Test.Qxb6500893aDoorA15
namespace Go.Proofs.Qxb6500893aDoor
open Go.Sh Go.RowKit
set_option linter.unusedVariables false
set_option linter.unusedSimpArgs false

/-! ### one pool, purely -/
theorem and_pow (x i : Nat) : x &&& 2 ^ i = if x.testBit i then 2 ^ i else 0 := by
  apply Nat.eq_of_testBit_eq
  intro k
  rw [Nat.testBit_and, Nat.testBit_two_pow]
  by_cases h : i = k
  · subst h; cases hx : x.testBit i <;> simp [Nat.testBit_two_pow]
  · cases hx : x.testBit i <;> simp [h, Nat.testBit_two_pow]
theorem and_ne (x i : Nat) : x &&& 2 ^ i ≠ 0 ↔ x.testBit i = true := by
  rw [and_pow]
  have := Nat.two_pow_pos i
  cases x.testBit i <;> simp <;> omega
def Chain (ws : Nat → Nat) (sh : Shp) : Nat → List Nat → Prop
  | h, [] => h = 0
  | h, j :: F => h = j + 1 ∧ Chain ws sh (ws (sh.bk j)) F
/-- the words of a pool whose free list is F -/
structure PoolOk (ws : Nat → Nat) (sh : Shp) (F : List Nat) : Prop where
  sl : ws sh.ctl = sealN sh
  nd : F.Nodup
  lt : ∀ j ∈ F, j < sh.n
  chain : Chain ws sh (ws (sh.ctl + 1)) F
  bits : ∀ j, j < 64 * mapW sh.n → ((ws (sh.mc j)).testBit (j % 64) = true ↔ (j < sh.n ∧ j ∉ F))
  used : ws (sh.ctl + 2) + F.length = sh.n
  pk1 : ws (sh.ctl + 2) ≤ ws (sh.ctl + 3)
  pk2 : ws (sh.ctl + 3) ≤ sh.n

section
variable {ws ws' : Nat → Nat} {sh : Shp} {F F' : List Nat} {A : Ar} {h0 n j a : Nat}
theorem Chain.frame : ∀ {F : List Nat} {h0 : Nat}, Chain ws sh h0 F → (∀ j ∈ F, ws' (sh.bk j) = ws (sh.bk j)) → Chain ws' sh h0 F
  | [], _, h, _ => h
  | j :: F, _, ⟨h1, h2⟩, e => ⟨h1, by rw [e j (List.mem_cons_self ..)]; exact Chain.frame h2 (fun k hk => e k (List.mem_cons_of_mem _ hk))⟩
theorem Chain.le (h : Chain ws sh h0 F) (hl : ∀ j ∈ F, j < n) : h0 ≤ n := by
  cases F with
  | nil => have : h0 = 0 := h; omega
  | cons j F => have := h.1; have := hl j (List.mem_cons_self ..); omega
theorem mc_in (hok : sh.Ok) (hj : j < 64 * mapW sh.n) : sh.ctl + 5 ≤ sh.mc j ∧ sh.mc j < sh.fst := by
  have := hok.bm; have := hok.fst
  unfold Shp.mc
  omega
theorem n_le (n : Nat) : n ≤ 64 * mapW n := by unfold mapW; omega
theorem fst_ge (hok : sh.Ok) : sh.ctl + 6 ≤ sh.fst := by
  have := hok.bm; have := hok.fst; have := hok.n1
  have : 1 ≤ mapW sh.n := by unfold mapW; omega
  omega
theorem bk_ge : sh.fst ≤ sh.bk j := by unfold Shp.bk; omega
theorem bk_inj (hok : sh.Ok) {i j t u : Nat} (h : sh.bk i + t = sh.bk j + u) (ht : t < sh.bw) (hu : u < sh.bw) : i = j := by
  unfold Shp.bk at h
  have hb := hok.bw1
  rcases Nat.lt_trichotomy i j with q | q | q
  · have : (i + 1) * sh.bw ≤ j * sh.bw := Nat.mul_le_mul_right _ q
    rw [Nat.add_mul, Nat.one_mul] at this
    omega
  · exact q
  · have : (j + 1) * sh.bw ≤ i * sh.bw := Nat.mul_le_mul_right _ q
    rw [Nat.add_mul, Nat.one_mul] at this
    omega
theorem PoolOk.frame (hok : sh.Ok) (h : PoolOk ws sh F) (ha : ∀ a, sh.ctl ≤ a → a < sh.fst → ws' a = ws a) (hb : ∀ j ∈ F, ws' (sh.bk j) = ws (sh.bk j)) : PoolOk ws' sh F := by
  have := fst_ge hok
  have e1 := ha (sh.ctl + 1) (by omega) (by omega)
  have e2 := ha (sh.ctl + 2) (by omega) (by omega)
  have e3 := ha (sh.ctl + 3) (by omega) (by omega)
  refine ⟨by rw [ha sh.ctl (by omega) (by omega)]; exact h.sl, h.nd, h.lt, by rw [e1]; exact h.chain.frame hb, fun j hj => ?_, by rw [e2]; exact h.used, by rw [e2, e3]; exact h.pk1, by rw [e3]; exact h.pk2⟩
  have := mc_in hok hj
  rw [ha _ (by omega) (by omega)]
  exact h.bits j hj
/-- the head of the list says whether it is empty -/
theorem PoolOk.head (h : PoolOk ws sh F) : (ws (sh.ctl + 1) = 0 ↔ F = []) := by
  have hc := h.chain
  cases F with
  | nil => exact ⟨fun _ => rfl, fun _ => hc⟩
  | cons j F => exact ⟨fun q => by have := hc.1; omega, fun q => by cases q⟩
theorem nodup_le : ∀ (n : Nat) (l : List Nat), l.Nodup → (∀ x ∈ l, x < n) → l.length ≤ n
  | 0, l, _, h => by
    cases l with
    | nil => exact Nat.le_refl _
    | cons x l => exact absurd (h x (List.mem_cons_self ..)) (Nat.not_lt_zero _)
  | n + 1, l, hd, h => by
    have h1 := nodup_le n (l.erase n) (hd.erase n) (fun x hx => by
      have := (hd.mem_erase_iff).1 hx
      have := h x this.2
      omega)
    rw [List.length_erase] at h1
    split at h1 <;> omega
theorem PoolOk.full (h : PoolOk ws sh F) (hj : j < sh.n) (hn : j ∉ F) : F.length < sh.n := by
  have h1 := nodup_le sh.n (j :: F) (List.nodup_cons.2 ⟨hn, h.nd⟩) (fun k hk => by
    rcases List.mem_cons.1 hk with q | q
    · omega
    · exact h.lt k q)
  simp at h1
  omega
theorem PoolOk.bit (hok : sh.Ok) (h : PoolOk ws sh F) (hj : j < sh.n) : (ws (sh.mc j) &&& bitN j ≠ 0) ↔ j ∉ F := by
  have := n_le sh.n
  unfold bitN
  rw [and_ne, h.bits j (by omega)]
  exact ⟨fun q => q.2, fun q => ⟨hj, q⟩⟩

/-- the list is empty: exhausted -/
theorem PoolOk.exh (h : PoolOk A.ws sh []) (hf : A.ws (sh.ctl + 4) ≠ 18446744073709551615) : allocF A sh = (0, 7, put (ld (ld (ld (ld A)))) (sh.ctl + 4) (A.ws (sh.ctl + 4) + 1)) := by
  unfold allocF
  rw [if_neg (by rw [h.sl]; exact fun q => q rfl), if_pos (h.head.2 rfl), if_pos hf]
theorem upd_ne {f : Nat → Nat} {i v k : Nat} (h : k ≠ i) : upd f i v k = f k := by unfold upd; rw [if_neg h]
theorem upd_eq {f : Nat → Nat} {i v : Nat} : upd f i v i = v := by unfold upd; rw [if_pos rfl]
/-- the words after a block has been handed out -/
theorem alloc_pool (hok : sh.Ok) (h : PoolOk ws sh (j :: F)) (h1 : ws' (sh.ctl + 1) = ws (sh.bk j)) (h2 : ws' (sh.mc j) = ws (sh.mc j) ||| bitN j) (h3 : ws' (sh.ctl + 2) = ws (sh.ctl + 2) + 1)
    (h4 : ws' (sh.ctl + 3) = if ws (sh.ctl + 3) < ws (sh.ctl + 2) + 1 then ws (sh.ctl + 2) + 1 else ws (sh.ctl + 3)) (hs : ws' sh.ctl = ws sh.ctl) (hm : ∀ k, k < 64 * mapW sh.n → sh.mc k ≠ sh.mc j → ws' (sh.mc k) = ws (sh.mc k)) (hb : ∀ k, ws' (sh.bk k) = ws (sh.bk k)) : PoolOk ws' sh F := by
  have hj := h.lt j (List.mem_cons_self ..)
  have hnd := List.nodup_cons.1 h.nd
  have hu := h.used
  have hle := n_le sh.n
  rw [List.length_cons] at hu
  have p1 := h.pk1
  have p2 := h.pk2
  refine ⟨by rw [hs]; exact h.sl, hnd.2, fun k hk => h.lt k (List.mem_cons_of_mem _ hk), ?_, fun k hk => ?_, by rw [h3]; omega, ?_, ?_⟩
  · rw [h1]
    exact h.chain.2.frame (fun k _ => hb k)
  · have hk0 := h.bits k hk
    have key : (k < sh.n ∧ k ∉ F) ↔ ((k < sh.n ∧ k ∉ j :: F) ∨ k = j) := by
      constructor
      · rintro ⟨a, b⟩
        by_cases e : k = j
        · exact .inr e
        · exact .inl ⟨a, fun q => by rcases List.mem_cons.1 q with q | q; exact e q; exact b q⟩
      · rintro (⟨a, b⟩ | e)
        · exact ⟨a, fun q => b (List.mem_cons_of_mem _ q)⟩
        · subst e; exact ⟨hj, hnd.1⟩
    rw [key, ← hk0]
    by_cases e : sh.mc k = sh.mc j
    · rw [e, h2, Nat.testBit_or]
      unfold bitN
      rw [Nat.testBit_two_pow, Bool.or_eq_true, decide_eq_true_eq]
      have ed : k / 64 = j / 64 := by unfold Shp.mc at e; omega
      constructor
      · rintro (q | q)
        · exact .inl q
        · exact .inr (by omega)
      · rintro (q | q)
        · exact .inl q
        · exact .inr (by rw [q])
    · rw [hm k hk e]
      constructor
      · exact .inl
      · rintro (q | q)
        · exact q
        · subst q; exact absurd rfl e
  · rw [h3, h4]; split <;> omega
  · rw [h4]; split <;> omega
/-- a block is handed out -/
theorem PoolOk.alloc (hok : sh.Ok) (h : PoolOk A.ws sh (j :: F)) : (allocF A sh).1 = sh.bk j ∧ (allocF A sh).2.1 = 0 ∧ PoolOk (allocF A sh).2.2.ws sh F ∧ (∀ a, (a < sh.ctl ∨ sh.fst ≤ a) → (allocF A sh).2.2.ws a = A.ws a) ∧ (allocF A sh).2.2.ws (sh.ctl + 4) = A.ws (sh.ctl + 4) ∧
    (allocF A sh).2.2.ws (sh.ctl + 3) = (if A.ws (sh.ctl + 3) < A.ws (sh.ctl + 2) + 1 then A.ws (sh.ctl + 2) + 1 else A.ws (sh.ctl + 3)) ∧ (∀ a ∈ (allocF A sh).2.2.sd, a ∈ A.sd ∨ (sh.ctl ≤ a ∧ a < sh.fst)) := by
  have hj := h.lt j (List.mem_cons_self ..)
  have hle := n_le sh.n
  have hh : A.ws (sh.ctl + 1) = j + 1 := h.chain.1
  have hm := mc_in hok (show j < 64 * mapW sh.n by omega)
  have hu := h.used
  rw [List.length_cons] at hu
  have p1 := h.pk1
  have p2 := h.pk2
  have hfst := fst_ge hok
  have hnext : A.ws (sh.bk j) ≤ sh.n := h.chain.2.le (fun k hk => h.lt k (List.mem_cons_of_mem _ hk))
  have hbit : ¬ (A.ws (sh.mc j) &&& bitN j ≠ 0) := fun q => (h.bit hok hj).1 q (List.mem_cons_self ..)
  have e : allocF A sh = (sh.bk j, 0,
    if A.ws (sh.ctl + 3) < A.ws (sh.ctl + 2) + 1 then put (put (put (put (ld (ld (ld (ld (ld (ld (ld A))))))) (sh.ctl + 1) (A.ws (sh.bk j))) (sh.mc j) (A.ws (sh.mc j) ||| bitN j)) (sh.ctl + 2) (A.ws (sh.ctl + 2) + 1)) (sh.ctl + 3) (A.ws (sh.ctl + 2) + 1)
    else put (put (put (ld (ld (ld (ld (ld (ld (ld A))))))) (sh.ctl + 1) (A.ws (sh.bk j))) (sh.mc j) (A.ws (sh.mc j) ||| bitN j)) (sh.ctl + 2) (A.ws (sh.ctl + 2) + 1)) := by
    unfold allocF
    rw [if_neg (by rw [h.sl]; exact fun q => q rfl), if_neg (by omega), if_neg (by omega)]
    have ei : A.ws (sh.ctl + 1) - 1 = j := by omega
    rw [ei, if_neg (by
      rintro (q | q | q | q | q)
      · exact hbit q
      · omega
      · omega
      · omega
      · omega)]
  rw [e]
  refine ⟨rfl, rfl, ?_⟩
  by_cases hp : A.ws (sh.ctl + 3) < A.ws (sh.ctl + 2) + 1
  · simp only [if_pos hp]
    have hbk : ∀ k, sh.fst ≤ sh.bk k := fun k => bk_ge
    refine ⟨alloc_pool hok h ?_ ?_ ?_ ?_ ?_ (fun k hk hne => ?_) (fun k => ?_), fun a ha => ?_, ?_, ?_, fun a ha => ?_⟩
    · simp only [put, ld]; rw [upd_ne (by omega), upd_ne (by omega), upd_ne (by omega), upd_eq]
    · simp only [put, ld]; rw [upd_ne (by omega), upd_ne (by omega), upd_eq]
    · simp only [put, ld]; rw [upd_ne (by omega), upd_eq]
    · simp only [put, ld]; rw [upd_eq, if_pos hp]
    · simp only [put, ld]; rw [upd_ne (by omega), upd_ne (by omega), upd_ne (by omega), upd_ne (by omega)]
    · have := mc_in hok hk
      simp only [put, ld]; rw [upd_ne (by omega), upd_ne (by omega), upd_ne hne, upd_ne (by omega)]
    · have := hbk k
      simp only [put, ld]; rw [upd_ne (by omega), upd_ne (by omega), upd_ne (by omega), upd_ne (by omega)]
    · simp only [put, ld]; rw [upd_ne (by omega), upd_ne (by omega), upd_ne (by omega), upd_ne (by omega)]
    · simp only [put, ld]; rw [upd_ne (by omega), upd_ne (by omega), upd_ne (by omega), upd_ne (by omega)]
    · simp only [put, ld]; rw [upd_eq]
    · simp only [put, ld, List.mem_append, List.mem_singleton] at ha
      rcases ha with (((ha | ha) | ha) | ha) | ha
      · exact .inl ha
      all_goals exact .inr (by omega)
  · simp only [if_neg hp]
    have hbk : ∀ k, sh.fst ≤ sh.bk k := fun k => bk_ge
    refine ⟨alloc_pool hok h ?_ ?_ ?_ ?_ ?_ (fun k hk hne => ?_) (fun k => ?_), fun a ha => ?_, ?_, ?_, fun a ha => ?_⟩
    · simp only [put, ld]; rw [upd_ne (by omega), upd_ne (by omega), upd_eq]
    · simp only [put, ld]; rw [upd_ne (by omega), upd_eq]
    · simp only [put, ld]; rw [upd_eq]
    · simp only [put, ld]; rw [upd_ne (by omega), upd_ne (by omega), upd_ne (by omega), if_neg hp]
    · simp only [put, ld]; rw [upd_ne (by omega), upd_ne (by omega), upd_ne (by omega)]
    · have := mc_in hok hk
      simp only [put, ld]; rw [upd_ne (by omega), upd_ne hne, upd_ne (by omega)]
    · have := hbk k
      simp only [put, ld]; rw [upd_ne (by omega), upd_ne (by omega), upd_ne (by omega)]
    · simp only [put, ld]; rw [upd_ne (by omega), upd_ne (by omega), upd_ne (by omega)]
    · simp only [put, ld]; rw [upd_ne (by omega), upd_ne (by omega), upd_ne (by omega)]
    · simp only [put, ld]; rw [upd_ne (by omega), upd_ne (by omega), upd_ne (by omega)]
    · simp only [put, ld, List.mem_append, List.mem_singleton] at ha
      rcases ha with ((ha | ha) | ha) | ha
      · exact .inl ha
      all_goals exact .inr (by omega)
end
end Go.Proofs.Qxb6500893aDoor
