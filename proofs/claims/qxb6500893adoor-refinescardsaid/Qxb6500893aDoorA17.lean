import Derived.Test.Qxb6500893aDoorA16
namespace Go.Proofs.Qxb6500893aDoor
open Go.Sh Go.RowKit
set_option linter.unusedVariables false
set_option linter.unusedSimpArgs false

theorem clr_bit (a b i : Nat) (hi : i < 64) : (clr a b).testBit i = (a.testBit i && !b.testBit i) := by
  have e : clr a b = (BitVec.ofInt 64 (a : Int) &&& ~~~BitVec.ofInt 64 (b : Int)).toNat := rfl
  rw [e, BitVec.testBit_toNat, BitVec.getLsbD_and, BitVec.getLsbD_not, BitVec.ofInt_natCast, BitVec.ofInt_natCast, BitVec.getLsbD_ofNat, BitVec.getLsbD_ofNat]
  simp [hi]
section
variable {ws ws' : Nat → Nat} {sh : Shp} {F F' : List Nat} {A : Ar} {h0 n j a : Nat}
theorem idx_bk (hok : sh.Ok) (hj : j < sh.n) : idxC sh (sh.bk j) = 0 ∧ idxI sh (sh.bk j) = j := by
  have hb := hok.bw1
  have hf := hok.fin
  have hm : (j + 1) * sh.bw ≤ sh.n * sh.bw := Nat.mul_le_mul_right _ hj
  rw [Nat.add_mul, Nat.one_mul] at hm
  have e1 : sh.bk j - sh.fst = j * sh.bw := by unfold Shp.bk; omega
  have e0 : idxC sh (sh.bk j) = 0 := by
    unfold idxC
    rw [if_neg (by unfold Shp.bk; omega), e1, Nat.mul_mod_left, if_neg (by omega)]
  refine ⟨e0, ?_⟩
  unfold idxI
  rw [if_pos e0, e1]
  exact Nat.mul_div_cancel _ (by omega)
theorem free_pool (hok : sh.Ok) (h : PoolOk ws sh F) (hj : j < sh.n) (hn : j ∉ F) (h0 : ws' (sh.bk j) = ws (sh.ctl + 1)) (h1 : ws' (sh.ctl + 1) = j + 1) (h2 : ws' (sh.mc j) = clr (ws (sh.mc j)) (bitN j)) (h3 : ws' (sh.ctl + 2) = ws (sh.ctl + 2) - 1)
    (h4 : ws' (sh.ctl + 3) = ws (sh.ctl + 3)) (hs : ws' sh.ctl = ws sh.ctl) (hm : ∀ k, k < 64 * mapW sh.n → sh.mc k ≠ sh.mc j → ws' (sh.mc k) = ws (sh.mc k)) (hb : ∀ k, k ≠ j → ws' (sh.bk k) = ws (sh.bk k)) : PoolOk ws' sh (j :: F) := by
  have hu := h.used
  have hfull := h.full hj hn
  have hle := n_le sh.n
  have p1 := h.pk1
  have p2 := h.pk2
  refine ⟨by rw [hs]; exact h.sl, List.nodup_cons.2 ⟨hn, h.nd⟩, fun k hk => ?_, ⟨h1, ?_⟩, fun k hk => ?_, by rw [h3, List.length_cons]; omega, by rw [h3, h4]; omega, by rw [h4]; exact p2⟩
  · rcases List.mem_cons.1 hk with q | q
    · omega
    · exact h.lt k q
  · rw [h0]
    exact h.chain.frame (fun k hk => hb k (fun e => hn (e ▸ hk)))
  · have hk0 := h.bits k hk
    have key : (k < sh.n ∧ k ∉ j :: F) ↔ ((k < sh.n ∧ k ∉ F) ∧ k ≠ j) := by
      constructor
      · rintro ⟨a, b⟩
        exact ⟨⟨a, fun q => b (List.mem_cons_of_mem _ q)⟩, fun e => b (by rw [e]; exact List.mem_cons_self ..)⟩
      · rintro ⟨⟨a, b⟩, e⟩
        exact ⟨a, fun q => by rcases List.mem_cons.1 q with q | q; exact e q; exact b q⟩
    rw [key, ← hk0]
    by_cases e : sh.mc k = sh.mc j
    · rw [e, h2, clr_bit _ _ _ (by omega)]
      unfold bitN
      rw [Nat.testBit_two_pow, Bool.and_eq_true, Bool.not_eq_true', decide_eq_false_iff_not]
      have ed : k / 64 = j / 64 := by unfold Shp.mc at e; omega
      constructor
      · rintro ⟨q1, q2⟩
        exact ⟨q1, fun e => q2 (by rw [e])⟩
      · rintro ⟨q1, q2⟩
        exact ⟨q1, by omega⟩
    · rw [hm k hk e]
      constructor
      · intro q; exact ⟨q, fun e' => by subst e'; exact absurd rfl e⟩
      · exact fun q => q.1
/-- a block is taken back -/
theorem PoolOk.free (hok : sh.Ok) (h : PoolOk A.ws sh F) (hj : j < sh.n) (hn : j ∉ F) : (freeF A sh (sh.bk j)).1 = 0 ∧ PoolOk (freeF A sh (sh.bk j)).2.ws sh (j :: F) ∧ (∀ a, (a < sh.ctl ∨ sh.fst ≤ a) → a ≠ sh.bk j → (freeF A sh (sh.bk j)).2.ws a = A.ws a) ∧
    (freeF A sh (sh.bk j)).2.ws (sh.ctl + 4) = A.ws (sh.ctl + 4) ∧ (freeF A sh (sh.bk j)).2.ws (sh.ctl + 3) = A.ws (sh.ctl + 3) ∧ (∀ a ∈ (freeF A sh (sh.bk j)).2.sd, a ∈ A.sd ∨ (sh.ctl ≤ a ∧ a < sh.fst) ∨ a = sh.bk j) := by
  obtain ⟨i1, i2⟩ := idx_bk hok hj
  have hle := n_le sh.n
  have hu := h.used
  have hfull := h.full hj hn
  have p1 := h.pk1
  have p2 := h.pk2
  have hfst := fst_ge hok
  have hm := mc_in hok (show j < 64 * mapW sh.n by omega)
  have hhead := h.chain.le h.lt
  have hbit := (h.bit hok hj).2 hn
  have e : freeF A sh (sh.bk j) = (0, put (put (put (put (ld (ld (ld (ld (ld A))))) (sh.bk j) (A.ws (sh.ctl + 1))) (sh.ctl + 1) (j + 1)) (sh.mc j) (clr (A.ws (sh.mc j)) (bitN j))) (sh.ctl + 2) (A.ws (sh.ctl + 2) - 1)) := by
    unfold freeF
    rw [if_neg (by rw [i1]; exact fun q => q rfl), if_neg (by rw [h.sl]; exact fun q => q rfl), i2, if_neg hbit, if_neg (by omega)]
  rw [e]
  have hbk : sh.fst ≤ sh.bk j := bk_ge
  refine ⟨rfl, free_pool hok h hj hn ?_ ?_ ?_ ?_ ?_ ?_ (fun k hk hne => ?_) (fun k hk => ?_), fun a ha hne => ?_, ?_, ?_, fun a ha => ?_⟩
  · simp only [put, ld]; rw [upd_ne (by omega), upd_ne (by omega), upd_ne (by omega), upd_eq]
  · simp only [put, ld]; rw [upd_ne (by omega), upd_ne (by omega), upd_eq]
  · simp only [put, ld]; rw [upd_ne (by omega), upd_eq]
  · simp only [put, ld]; rw [upd_eq]
  · simp only [put, ld]; rw [upd_ne (by omega), upd_ne (by omega), upd_ne (by omega), upd_ne (by omega)]
  · simp only [put, ld]; rw [upd_ne (by omega), upd_ne (by omega), upd_ne (by omega), upd_ne (by omega)]
  · have := mc_in hok hk
    simp only [put, ld]; rw [upd_ne (by omega), upd_ne hne, upd_ne (by omega), upd_ne (by omega)]
  · have h1 : sh.fst ≤ sh.bk k := bk_ge
    have h2 : sh.bk k ≠ sh.bk j := fun e => hk (bk_inj hok (t := 0) (u := 0) (by omega) (by have := hok.bw1; omega) (by have := hok.bw1; omega))
    simp only [put, ld]; rw [upd_ne (by omega), upd_ne (by omega), upd_ne (by omega), upd_ne h2]
  · simp only [put, ld]; rw [upd_ne (by omega), upd_ne (by omega), upd_ne (by omega), upd_ne hne]
  · simp only [put, ld]; rw [upd_ne (by omega), upd_ne (by omega), upd_ne (by omega), upd_ne (by omega)]
  · simp only [put, ld]; rw [upd_ne (by omega), upd_ne (by omega), upd_ne (by omega), upd_ne (by omega)]
  · simp only [put, ld, List.mem_append, List.mem_singleton] at ha
    rcases ha with (((ha | ha) | ha) | ha) | ha
    · exact .inl ha
    · exact .inr (.inr ha)
    all_goals exact .inr (.inl (by omega))
/-- an address of no block in use: refused, nothing stored -/
theorem PoolOk.freeNo (hok : sh.Ok) (h : PoolOk A.ws sh F) (hno : ∀ j, j < sh.n → a = sh.bk j → j ∈ F) : (freeF A sh a).1 = (if idxC sh a ≠ 0 then idxC sh a else 10) ∧ (freeF A sh a).2.ws = A.ws ∧ (freeF A sh a).2.sd = A.sd := by
  unfold freeF
  by_cases hc : idxC sh a ≠ 0
  · rw [if_pos hc, if_pos hc]; exact ⟨rfl, rfl, rfl⟩
  · have hc0 : idxC sh a = 0 := Decidable.not_not.1 hc
    rw [if_neg hc, if_neg hc, if_neg (by rw [h.sl]; exact fun q => q rfl)]
    obtain ⟨h1, h2⟩ := idx_lt hok hc0
    have hin := hno _ h1 h2
    have hb : A.ws (sh.mc (idxI sh a)) &&& bitN (idxI sh a) = 0 := Decidable.not_not.1 (fun q => (h.bit hok h1).1 q hin)
    rw [if_pos hb]
    exact ⟨rfl, rfl, rfl⟩

/-! ### formatting -/
theorem puts_cons (A : Ar) (p : Nat × Nat) (l : List (Nat × Nat)) : puts A (p :: l) = puts (put A p.1 p.2) l := rfl
theorem puts_no : ∀ (l : List (Nat × Nat)) (A : Ar), (∀ p ∈ l, p.1 ≠ a) → (puts A l).ws a = A.ws a
  | [], A, _ => rfl
  | p :: l, A, h => by
    rw [puts_cons, puts_no l _ (fun q hq => h q (List.mem_cons_of_mem _ hq))]
    exact upd_ne (fun e => h p (List.mem_cons_self ..) e.symm)
theorem puts_val {v : Nat} : ∀ (l : List (Nat × Nat)) (A : Ar), (∃ p ∈ l, p.1 = a) → (∀ p ∈ l, p.1 = a → p.2 = v) → (puts A l).ws a = v
  | [], A, ⟨p, hp, _⟩, _ => by cases hp
  | p :: l, A, hex, hv => by
    rw [puts_cons]
    by_cases h : ∃ q ∈ l, q.1 = a
    · exact puts_val l _ h (fun q hq => hv q (List.mem_cons_of_mem _ hq))
    · rw [puts_no l _ (fun q hq e => h ⟨q, hq, e⟩)]
      obtain ⟨q, hq, e⟩ := hex
      rcases List.mem_cons.1 hq with rfl | hq
      · subst e
        show upd A.ws q.1 q.2 q.1 = v
        rw [upd_eq]; exact hv q (List.mem_cons_self ..) rfl
      · exact absurd ⟨q, hq, e⟩ h
theorem fmt_mem {p : Nat × Nat} : p ∈ fmtL sh ↔ (p = (sh.ctl + 1, 1) ∨ p = (sh.ctl + 2, 0) ∨ p = (sh.ctl + 3, 0) ∨ p = (sh.ctl + 4, 0)) ∨ (∃ k, k < mapW sh.n ∧ p = (sh.bm + k, 0)) ∨ (∃ i, i < sh.n - 1 ∧ p = (sh.bk i, i + 2)) ∨ p = (sh.bk (sh.n - 1), 0) ∨ p = (sh.ctl, sealN sh) := by
  unfold fmtL fmt1 fmt2 fmt3
  simp only [List.mem_append, List.mem_cons, List.mem_map, List.mem_range, List.not_mem_nil, or_false]
  constructor
  · rintro (h | ⟨k, h1, h2⟩ | ⟨i, h1, h2⟩ | h | h)
    · exact .inl h
    · exact .inr (.inl ⟨k, h1, h2.symm⟩)
    · exact .inr (.inr (.inl ⟨i, h1, h2.symm⟩))
    · exact .inr (.inr (.inr (.inl h)))
    · exact .inr (.inr (.inr (.inr h)))
  · rintro (h | ⟨k, h1, h2⟩ | ⟨i, h1, h2⟩ | h | h)
    · exact .inl h
    · exact .inr (.inl ⟨k, h1, h2.symm⟩)
    · exact .inr (.inr (.inl ⟨i, h1, h2.symm⟩))
    · exact .inr (.inr (.inr (.inl h)))
    · exact .inr (.inr (.inr (.inr h)))
theorem chain_range (hb : ∀ i, i + 1 < n → ws (sh.bk i) = i + 2) (hl : ∀ i, i + 1 = n → ws (sh.bk i) = 0) : ∀ (m i : Nat), i + m = n → Chain ws sh (if m = 0 then 0 else i + 1) (List.range' i m)
  | 0, i, _ => rfl
  | m + 1, i, h => by
    rw [List.range'_succ]
    refine ⟨by simp, ?_⟩
    have ih := chain_range hb hl m (i + 1) (by omega)
    by_cases hm : m = 0
    · rw [if_pos hm] at ih
      rw [hl i (by omega)]; exact ih
    · rw [if_neg hm] at ih
      rw [hb i (by omega)]; exact ih
theorem fmt_ok (hok : sh.Ok) : PoolOk (fmtF A sh).ws sh (List.range sh.n) ∧ (∀ a, (a < sh.ctl ∨ sh.fin ≤ a) → (fmtF A sh).ws a = A.ws a) ∧ (fmtF A sh).ws (sh.ctl + 2) = 0 ∧ (fmtF A sh).ws (sh.ctl + 3) = 0 ∧ (fmtF A sh).ws (sh.ctl + 4) = 0 ∧ (∀ a ∈ (fmtF A sh).sd, a ∈ A.sd ∨ (sh.ctl ≤ a ∧ a < sh.fin)) := by
  have hfst := fst_ge hok
  have hbm := hok.bm
  have hf := hok.fst
  have hn1 := hok.n1
  have hb1 := hok.bw1
  have hbk : ∀ i, sh.fst ≤ sh.bk i := fun i => bk_ge
  have hfin : ∀ i, i < sh.n → sh.bk i + sh.bw ≤ sh.fin := fun i hi => bk_le sh hok hi
  have inj : ∀ i k, sh.bk i = sh.bk k → i = k := fun i k e => bk_inj hok (t := 0) (u := 0) (by omega) (by omega) (by omega)
  have val : ∀ a v, (∃ p ∈ fmtL sh, p.1 = a) → (∀ p ∈ fmtL sh, p.1 = a → p.2 = v) → (fmtF A sh).ws a = v := fun a v h1 h2 => puts_val _ _ h1 h2
  have e0 : (fmtF A sh).ws sh.ctl = sealN sh := by
    refine val _ _ ⟨(sh.ctl, sealN sh), fmt_mem.2 (.inr (.inr (.inr (.inr rfl)))), rfl⟩ (fun p hp e => ?_)
    rcases fmt_mem.1 hp with (h | h | h | h) | ⟨k, h1, h⟩ | ⟨i, h1, h⟩ | h | h <;> rw [h] at e ⊢ <;> simp only at e ⊢
    all_goals first | omega | (have := hbk i; omega) | (have := hbk (sh.n - 1); omega)
  have e1 : (fmtF A sh).ws (sh.ctl + 1) = 1 := by
    refine val _ _ ⟨(sh.ctl + 1, 1), fmt_mem.2 (.inl (.inl rfl)), rfl⟩ (fun p hp e => ?_)
    rcases fmt_mem.1 hp with (h | h | h | h) | ⟨k, h1, h⟩ | ⟨i, h1, h⟩ | h | h <;> rw [h] at e ⊢ <;> simp only at e ⊢
    all_goals first | omega | (have := hbk i; omega) | (have := hbk (sh.n - 1); omega)
  have e2 : (fmtF A sh).ws (sh.ctl + 2) = 0 := by
    refine val _ _ ⟨(sh.ctl + 2, 0), fmt_mem.2 (.inl (.inr (.inl rfl))), rfl⟩ (fun p hp e => ?_)
    rcases fmt_mem.1 hp with (h | h | h | h) | ⟨k, h1, h⟩ | ⟨i, h1, h⟩ | h | h <;> rw [h] at e ⊢ <;> simp only at e ⊢
    all_goals first | omega | (have := hbk i; omega) | (have := hbk (sh.n - 1); omega)
  have e3 : (fmtF A sh).ws (sh.ctl + 3) = 0 := by
    refine val _ _ ⟨(sh.ctl + 3, 0), fmt_mem.2 (.inl (.inr (.inr (.inl rfl)))), rfl⟩ (fun p hp e => ?_)
    rcases fmt_mem.1 hp with (h | h | h | h) | ⟨k, h1, h⟩ | ⟨i, h1, h⟩ | h | h <;> rw [h] at e ⊢ <;> simp only at e ⊢
    all_goals first | omega | (have := hbk i; omega) | (have := hbk (sh.n - 1); omega)
  have e4 : (fmtF A sh).ws (sh.ctl + 4) = 0 := by
    refine val _ _ ⟨(sh.ctl + 4, 0), fmt_mem.2 (.inl (.inr (.inr (.inr rfl)))), rfl⟩ (fun p hp e => ?_)
    rcases fmt_mem.1 hp with (h | h | h | h) | ⟨k, h1, h⟩ | ⟨i, h1, h⟩ | h | h <;> rw [h] at e ⊢ <;> simp only at e ⊢
    all_goals first | omega | (have := hbk i; omega) | (have := hbk (sh.n - 1); omega)
  have em : ∀ k, k < mapW sh.n → (fmtF A sh).ws (sh.bm + k) = 0 := by
    intro k hk
    refine val _ _ ⟨(sh.bm + k, 0), fmt_mem.2 (.inr (.inl ⟨k, hk, rfl⟩)), rfl⟩ (fun p hp e => ?_)
    rcases fmt_mem.1 hp with (h | h | h | h) | ⟨k', h1, h⟩ | ⟨i, h1, h⟩ | h | h <;> rw [h] at e ⊢ <;> simp only at e ⊢
    all_goals first | omega | (have := hbk i; omega) | (have := hbk (sh.n - 1); omega)
  have eb : ∀ i, i + 1 < sh.n → (fmtF A sh).ws (sh.bk i) = i + 2 := by
    intro i hi
    have hbi := hbk i
    refine val _ _ ⟨(sh.bk i, i + 2), fmt_mem.2 (.inr (.inr (.inl ⟨i, by omega, rfl⟩))), rfl⟩ (fun p hp e => ?_)
    rcases fmt_mem.1 hp with (h | h | h | h) | ⟨k, h1, h⟩ | ⟨i', h1, h⟩ | h | h <;> rw [h] at e ⊢ <;> simp only at e ⊢
    all_goals first | omega | (have := inj _ _ e; omega)
  have el : ∀ i, i + 1 = sh.n → (fmtF A sh).ws (sh.bk i) = 0 := by
    intro i hi
    have hbi := hbk i
    have ei : sh.n - 1 = i := by omega
    refine val _ _ ⟨(sh.bk i, 0), fmt_mem.2 (.inr (.inr (.inr (.inl (by rw [ei]))))), rfl⟩ (fun p hp e => ?_)
    rcases fmt_mem.1 hp with (h | h | h | h) | ⟨k, h1, h⟩ | ⟨i', h1, h⟩ | h | h <;> rw [h] at e ⊢ <;> simp only at e ⊢
    all_goals first | omega | (have := inj _ _ e; omega)
  refine ⟨⟨e0, List.nodup_range, fun j hj => List.mem_range.1 hj, ?_, fun k hk => ?_, by rw [e2]; simp, by rw [e2]; omega, by rw [e3]; omega⟩, fun a ha => ?_, e2, e3, e4, fun a ha => ?_⟩
  · rw [e1, List.range_eq_range']
    have := chain_range eb el sh.n 0 (by omega)
    rw [if_neg (by omega)] at this
    exact this
  · unfold Shp.mc
    rw [em _ (by omega), Nat.zero_testBit]
    constructor
    · intro q; cases q
    · rintro ⟨q1, q2⟩; exact absurd (List.mem_range.2 q1) q2
  · refine puts_no _ _ (fun p hp e => ?_)
    have hl := hfin (sh.n - 1) (by omega)
    have hbl := hbk (sh.n - 1)
    rcases fmt_mem.1 hp with (h | h | h | h) | ⟨k, h1, h⟩ | ⟨i, h1, h⟩ | h | h <;> rw [h] at e <;> simp only at e
    all_goals first | omega | (have := hbk i; have := hfin i (by omega); omega)
  · unfold fmtF at ha
    rw [puts_sd] at ha
    rcases List.mem_append.1 ha with q | q
    · exact .inl q
    · rw [List.mem_map] at q
      obtain ⟨p, hp, rfl⟩ := q
      have hl := hfin (sh.n - 1) (by omega)
      have hbl := hbk (sh.n - 1)
      rcases fmt_mem.1 hp with (h | h | h | h) | ⟨k, h1, h⟩ | ⟨i, h1, h⟩ | h | h <;> rw [h] <;> simp only
      all_goals first | (exact .inr (by omega)) | (have := hbk i; have := hfin i (by omega); exact .inr (by omega))
end
end Go.Proofs.Qxb6500893aDoor
