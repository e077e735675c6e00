import Derived.Test.Qxb6500898aV3
namespace Go.Proofs.Qxb6500898a
open Go.Sh Go.RowKit
set_option linter.unusedVariables false
set_option linter.unusedSimpArgs false

/-- a slice that may be written to -/
structure Mv (w : World) (v : Value) (ob : Option Nat) (o : Nat) (xs : List Int) (pre post : List Value) : Prop where
  by_ : By xs
  len : xs.length ≤ 1000000000000
  at_ : (v = .slice none 0 0 ∧ xs = [] ∧ ob = none) ∨ ∃ b c, ob = some b ∧ v = sv b o xs.length c ∧ xs.length ≤ c ∧ Row w b 5 (pre ++ (xs.map U8 ++ post)) ∧ pre.length = o
section
variable {w w' : World} {v d : Value} {ob : Option Nat} {o : Nat} {xs ys zs : List Int} {pre post : List Value} {K : Value → World → Prop} {k : World → Prop} {i : Nat} {z : Int} {C : Nat → Prop}
theorem Mv.kp (h : Mv w v ob o xs pre post) (hk : Kp C w w') (hn : ∀ b, ob = some b → ¬ C b) : Mv w' v ob o xs pre post := by
  refine ⟨h.by_, h.len, ?_⟩
  rcases h.at_ with q | ⟨b, c, h1, h2, h3, h4, h5⟩
  · exact .inl q
  · exact .inr ⟨b, c, h1, h2, h3, hk.row h4 (hn b h1), h5⟩
theorem Mv.kp' (h : Mv w v ob o xs pre post) (hk : Kp (fun _ => False) w w') : Mv w' v ob o xs pre post := h.kp hk (fun _ _ q => q)
theorem Mv.ln (h : Mv w v ob o xs pre post) (hK : K (I xs.length) w) : lnS v K w := by
  rcases h.at_ with ⟨rfl, rfl, _⟩ | ⟨b, c, _, rfl, _⟩
  · exact hK
  · exact hK
theorem Mv.bs (h : Mv w v ob o xs pre post) : Bs w v xs := by
  have hl := h.len
  rcases h.at_ with ⟨rfl, rfl, _⟩ | ⟨b, c, _, rfl, h3, h4, h5⟩
  · exact ⟨h.by_, .inl ⟨rfl, rfl⟩⟩
  · exact (Seg.mk h4 h5 h.by_).bs h3 (by omega)
/-- the place of an octet: it can be read and written -/
theorem Mv.ix (h : Mv w v ob o xs pre post) (hi : i < xs.length) {ii : Int} (hii : ii = (i : Int))
    (hK : ∀ p, (∀ K' : Value → World → Prop, K' (U8 xs[i]) w → ld1 p K' w) → (∀ {w2 : World} {ys : List Int} {k : World → Prop} {z : Int}, Mv w2 v ob o ys pre post → ys.length = xs.length → (0 ≤ z ∧ z ≤ 255) → (∀ w', Mv w' v ob o (ys.set i z) pre post → Kp (fun k => ob = some k) w2 w' → w'.heap.size = w2.heap.size → k w') → st1 p (U8 z) k w2) → K p w) : ixs 1 v (.int .i64 ii) K w := by
  rcases h.at_ with ⟨rfl, rfl, _⟩ | ⟨b, c, hob, rfl, h3, h4, h5⟩
  · simp at hi
  · have sg : Seg w b o xs pre post := ⟨h4, h5, h.by_⟩
    refine Seg.ix hi hii (hK _ (fun K' hk => sg.ld hi hk) ?_)
    intro w2 ys k z hm hly hz hk
    rcases hm.at_ with ⟨_, _, q⟩ | ⟨b', c', hob', e, g3, g4, g5⟩
    · rw [q] at hob; cases hob
    · rw [hob] at hob'
      cases hob'
      have sg2 : Seg w2 b o ys pre post := ⟨g4, g5, hm.by_⟩
      refine sg2.st (by omega) hz fun w' s' hk' hz' => hk w' ⟨s'.by_, by rw [List.length_set]; exact hm.len, .inr ⟨b, c', hob, by rw [List.length_set]; exact e, by rw [List.length_set]; exact g3, s'.row, s'.off⟩⟩ (hk'.mono fun x _ (q : x = b) => by rw [hob, q]) hz'
/-- reading at a later world -/
theorem Mv.get (h : Mv w v ob o xs pre post) (hi : i < xs.length) {ii : Int} (hii : ii = (i : Int)) (hK : K (U8 xs[i]) w) : ixs 1 v (.int .i64 ii) (fun p w => ld1 p K w) w := h.ix hi hii fun p hld _ => hld _ hK
theorem Mv.from (h : Mv w v ob o xs pre post) {e : Nat} {ii : Int} (hii : ii = (e : Int)) (he : e < xs.length) (hK : ∀ v', Mv w v' ob (o + e) (xs.drop e) (pre ++ (xs.take e).map U8) post → (∀ {w2 : World} {ys zs : List Int}, Mv w2 v ob o ys pre post → ys.length = xs.length → ∀ {w3 : World}, Mv w3 v' ob (o + e) zs (pre ++ (ys.take e).map U8) post → zs.length = xs.length - e → Mv w3 v ob o (ys.take e ++ zs) pre post) → K v' w) : sls 1 v (some (.int .i64 ii)) none K w := by
  have hl := h.len
  rcases h.at_ with ⟨rfl, rfl, _⟩ | ⟨b, c, hob, rfl, h3, h4, h5⟩
  · simp at he
  · have sg : Seg w b o xs pre post := ⟨h4, h5, h.by_⟩
    have sg' := sg.drop (d := e) (by omega)
    refine sls_from hii (by omega) (by omega) h3 (hK _ ⟨h.by_.drop e, by rw [List.length_drop]; omega, .inr ⟨b, c - e, hob, by rw [List.length_drop], by rw [List.length_drop]; omega, sg'.row, sg'.off⟩⟩ ?_)
    intro w2 ys zs hy hly w3 hz hlz
    have hyl : e ≤ ys.length := by omega
    rcases hz.at_ with ⟨q, _⟩ | ⟨b', c', hob', ev, g3, g4, g5⟩
    · cases q
    · rw [hob] at hob'
      cases hob'
      have s3 : Seg w3 b (o + e) zs (pre ++ (ys.take e).map U8) post := ⟨g4, g5, hz.by_⟩
      have s4 := s3.undrop hyl hy.by_
      have hlen : (ys.take e ++ zs).length = xs.length := by rw [List.length_append, List.length_take]; omega
      exact ⟨s4.by_, by omega, .inr ⟨b, c, hob, by rw [hlen], by omega, s4.row, s4.off⟩⟩
theorem Mv.to (h : Mv w v ob o xs pre post) {e : Nat} {ii : Int} (hii : ii = (e : Int)) (he : e ≤ xs.length) (h0 : 0 < xs.length) (hK : ∀ v', Mv w v' ob o (xs.take e) pre ((xs.drop e).map U8 ++ post) → (∀ {w2 : World} {ys zs : List Int}, Mv w2 v ob o ys pre post → ys.length = xs.length → ∀ {w3 : World}, Mv w3 v' ob o zs pre ((ys.drop e).map U8 ++ post) → zs.length = e → Mv w3 v ob o (zs ++ ys.drop e) pre post) → K v' w) : sls 1 v none (some (.int .i64 ii)) K w := by
  have hl := h.len
  rcases h.at_ with ⟨rfl, rfl, _⟩ | ⟨b, c, hob, rfl, h3, h4, h5⟩
  · simp at h0
  · have sg : Seg w b o xs pre post := ⟨h4, h5, h.by_⟩
    have sg' := sg.take (d := e) he
    refine sls_to hii (by omega) (hK _ ⟨h.by_.take e, by rw [List.length_take]; omega, .inr ⟨b, c, hob, by rw [List.length_take]; congr 1; omega, by rw [List.length_take]; omega, sg'.row, sg'.off⟩⟩ ?_)
    intro w2 ys zs hy hly w3 hz hlz
    rcases hz.at_ with ⟨q, _⟩ | ⟨b', c', hob', ev, g3, g4, g5⟩
    · cases q
    · rw [hob] at hob'
      cases hob'
      have s3 : Seg w3 b o zs pre ((ys.drop e).map U8 ++ post) := ⟨g4, g5, hz.by_⟩
      have s4 := s3.untake hy.by_
      have hlen : (zs ++ ys.drop e).length = xs.length := by rw [List.length_append, List.length_drop]; omega
      exact ⟨s4.by_, by omega, .inr ⟨b, c, hob, by rw [hlen], by omega, s4.row, s4.off⟩⟩
/-- out of a slice that grows, and back -/
theorem Mv.of (h : Sl u1 1 w 5 ob v xs) (hb : By xs) (hl : xs.length ≤ 1000000000000) : ∃ junk, Mv w v ob 0 xs [] junk ∧ ∀ {w' : World} {ys : List Int}, Mv w' v ob 0 ys [] junk → ys.length = xs.length → Sl u1 1 w' 5 ob v ys := by
  cases ob with
  | none =>
    obtain ⟨rfl, rfl⟩ := h
    exact ⟨[], ⟨hb, hl, .inl ⟨rfl, rfl, rfl⟩⟩, fun hm hly => ⟨rfl, List.eq_nil_of_length_eq_zero (by simpa using hly)⟩⟩
  | some b =>
    obtain ⟨cap, junk, rfl, h2, h3, h4⟩ := h
    refine ⟨junk, ⟨hb, hl, .inr ⟨b, cap, rfl, rfl, h2, by rw [rows_u1] at h4; exact h4, rfl⟩⟩, fun {w' ys} hm hly => ?_⟩
    rcases hm.at_ with ⟨q, _⟩ | ⟨b', c', e1, e2, g3, g4, g5⟩
    · cases q
    · cases e1
      refine ⟨cap, junk, by rw [hly], by omega, by rw [hly]; exact h3, by rw [rows_u1]; exact g4⟩

/-! ### reverse -/
theorem rev_swap {i : Nat} (hi : i < xs.length - 1 - i) (hl : i < xs.length) (ys : List Int) (hy : ys = (xs.reverse.take i) ++ ((xs.drop i).take (xs.length - 2 * i)) ++ xs.reverse.drop (xs.length - i)) :
    True := trivial
/-- the first i and the last i octets are turned round -/
def rv (xs : List Int) (i : Nat) : List Int := (List.range xs.length).map (fun j => if j < i ∨ xs.length - i ≤ j then g xs (xs.length - 1 - j) else g xs j)
theorem rv_len (xs : List Int) (i : Nat) : (rv xs i).length = xs.length := by simp [rv]
theorem rv_get {j : Nat} (hj : j < xs.length) (hj' : j < (rv xs i).length) : (rv xs i)[j] = if j < i ∨ xs.length - i ≤ j then g xs (xs.length - 1 - j) else g xs j := by simp [rv]
theorem g_get {j : Nat} (hj : j < xs.length) : g xs j = xs[j] := by unfold g; rw [List.getD_eq_getElem?_getD, List.getElem?_eq_getElem hj]; rfl
theorem rv_0 : rv xs 0 = xs := by
  apply List.ext_getElem (rv_len xs 0)
  intro j h1 h2
  rw [rv_get h2 h1, if_neg (by omega), g_get h2]
theorem rv_end {i : Nat} (hi : xs.length ≤ 2 * i + 1) : rv xs i = xs.reverse := by
  apply List.ext_getElem (by rw [rv_len, List.length_reverse])
  intro j h1 h2
  rw [rv_len] at h1
  rw [rv_get h1, List.getElem_reverse]
  split
  · exact g_get (by omega)
  · rw [g_get h1]
    have : xs.length - 1 - j = j := by omega
    simp only [this]
theorem rv_step {i : Nat} (h : i < xs.length - 1 - i) (h1 : i < xs.length) : ((rv xs i).set i (g xs (xs.length - 1 - i))).set (xs.length - 1 - i) (g xs i) = rv xs (i + 1) := by
  apply List.ext_getElem (by rw [List.length_set, List.length_set, rv_len, rv_len])
  intro j h2 h3
  rw [rv_len] at h3
  rw [rv_get h3]
  by_cases e1 : xs.length - 1 - i = j
  · subst e1
    rw [List.getElem_set_self, if_pos (by omega)]
    congr 1; omega
  · rw [List.getElem_set_ne e1]
    by_cases e2 : i = j
    · subst e2
      rw [List.getElem_set_self, if_pos (by omega)]
    · rw [List.getElem_set_ne e2, rv_get h3]
      by_cases c : j < i ∨ xs.length - i ≤ j
      · rw [if_pos c, if_pos (by omega)]
      · rw [if_neg c, if_neg (by omega)]
theorem reverse_ok (h : Mv w v ob o xs pre post) (hK : ∀ w', Mv w' v ob o xs.reverse pre post → Kp (fun k => ob = some k) w w' → w'.heap.size = w.heap.size → K (.tuple #[]) w') : cl Try.prog 89 #[v] K w := by
  have hl := h.len
  have hb := h.by_
  apply c89
  unfold s89_p5
  refine h.ln ?_
  try simp only [e_fd, e_nck, e_pkt, e_pkf, e_gdtt, e_gdtf, e_gdft, e_gdff, e_ift, e_iff, e_not, e_ln, e_lnT, e_cp, e_cvi, e_ex20, e_ex21, e_ex30, e_ex31, e_ex32, e_add, e_sub, e_mul, e_quo, e_rem, e_and, e_or, e_xor, e_shl, e_shr, e_eql, e_neq, e_lss, e_leq, e_gtr, e_geq, e_beq, e_bne, e_peq1, e_peq2, e_pne1, e_pne2, e_zeq1, e_zeq2, e_zne1, e_zne2, e_feq1, e_fne1, e_feq2, e_fne2, e_seq, e_sne, e_ta1, e_ta2, Nat.zero_add, Nat.add_zero, Bool.not_true, Bool.not_false]
  rw [wrap64_id (by omega) (by omega)]
  unfold s89_p4
  refine ⟨fun n l w' => ∃ i : Nat, n + i = xs.length + 1 ∧ i ≤ xs.length ∧ l = [v, I (i : Nat), I ((xs.length : Int) - 1 - i)] ∧ Mv w' v ob o (rv xs i) pre post ∧ Kp (fun k => ob = some k) w w' ∧ w'.heap.size = w.heap.size,
    xs.length + 1, ⟨0, rfl, Nat.zero_le _, by simp, by rw [rv_0]; exact h, Kp.refl _ _, rfl⟩, ?_⟩
  rintro n l w1 ⟨i, hn, hi, rfl, h1, hk1, hz1⟩
  rw [s89_p4_Fe]
  unfold s89_p3
  try simp only [e_fd, e_nck, e_pkt, e_pkf, e_gdtt, e_gdtf, e_gdft, e_gdff, e_ift, e_iff, e_not, e_ln, e_lnT, e_cp, e_cvi, e_ex20, e_ex21, e_ex30, e_ex31, e_ex32, e_add, e_sub, e_mul, e_quo, e_rem, e_and, e_or, e_xor, e_shl, e_shr, e_eql, e_neq, e_lss, e_leq, e_gtr, e_geq, e_beq, e_bne, e_peq1, e_peq2, e_pne1, e_pne2, e_zeq1, e_zeq2, e_zne1, e_zne2, e_feq1, e_fne1, e_feq2, e_fne2, e_seq, e_sne, e_ta1, e_ta2, Nat.zero_add, Nat.add_zero, Bool.not_true, Bool.not_false]
  by_cases hlt : (i : Int) < (xs.length : Int) - 1 - i
  · simp only [hlt, decide_true, e_fd, e_nck, e_pkt, e_pkf, e_gdtt, e_gdtf, e_gdft, e_gdff, e_ift, e_iff, e_not, e_ln, e_lnT, e_cp, e_cvi, e_ex20, e_ex21, e_ex30, e_ex31, e_ex32, e_add, e_sub, e_mul, e_quo, e_rem, e_and, e_or, e_xor, e_shl, e_shr, e_eql, e_neq, e_lss, e_leq, e_gtr, e_geq, e_beq, e_bne, e_peq1, e_peq2, e_pne1, e_pne2, e_zeq1, e_zeq2, e_zne1, e_zne2, e_feq1, e_fne1, e_feq2, e_fne2, e_seq, e_sne, e_ta1, e_ta2, Nat.zero_add, Nat.add_zero, Bool.not_true, Bool.not_false]
    have hii : i < xs.length := by omega
    have hij : xs.length - 1 - i < xs.length := by omega
    have hrl := rv_len xs i
    have ej : (xs.length : Int) - 1 - (i : Int) = ((xs.length - 1 - i : Nat) : Int) := by omega
    unfold s89_p2 s89_p2_d
    have k2 : Kp (fun _ => False) w1 (drw w1) := kp_drw
    have z2 : (drw w1).heap.size = w1.heap.size := rfl
    generalize drw w1 = w2 at k2 z2 ⊢
    have h2 := h1.kp' k2
    refine h2.ix (i := xs.length - 1 - i) (by omega) ej fun p hld hst => hld _ ?_
    refine h2.ix (i := i) (by omega) rfl fun p' hld' hst' => hld' _ ?_
    refine h2.ix (i := i) (by omega) rfl fun p1 _ hst1 => ?_
    refine h2.ix (i := xs.length - 1 - i) (by omega) ej fun p2 _ hst2 => ?_
    rw [rv_get hij, rv_get hii, if_neg (by omega), if_neg (by omega)]
    have gb : ∀ j, 0 ≤ g xs j ∧ g xs j ≤ 255 := h.bs.gb
    refine hst1 h2 rfl (gb _) fun w3 h3 hk3 hz3 => ?_
    refine hst2 h3 (by rw [List.length_set]) (gb _) fun w4 h4 hk4 hz4 => ?_
    rw [rv_step (by omega) hii] at h4
    unfold s89_p1
    try simp only [e_fd, e_nck, e_pkt, e_pkf, e_gdtt, e_gdtf, e_gdft, e_gdff, e_ift, e_iff, e_not, e_ln, e_lnT, e_cp, e_cvi, e_ex20, e_ex21, e_ex30, e_ex31, e_ex32, e_add, e_sub, e_mul, e_quo, e_rem, e_and, e_or, e_xor, e_shl, e_shr, e_eql, e_neq, e_lss, e_leq, e_gtr, e_geq, e_beq, e_bne, e_peq1, e_peq2, e_pne1, e_pne2, e_zeq1, e_zeq2, e_zne1, e_zne2, e_feq1, e_fne1, e_feq2, e_fne2, e_seq, e_sne, e_ta1, e_ta2, Nat.zero_add, Nat.add_zero, Bool.not_true, Bool.not_false]
    rw [wrap64_id (by omega) (by omega), wrap64_id (by omega) (by omega)]
    exact ⟨n - 1, by omega, i + 1, by omega, by omega, by simp; omega, h4, hk1.trans (((k2.mono fun _ _ q => q.elim).trans hk3).trans hk4), by omega⟩
  · simp only [hlt, decide_false, e_fd, e_nck, e_pkt, e_pkf, e_gdtt, e_gdtf, e_gdft, e_gdff, e_ift, e_iff, e_not, e_ln, e_lnT, e_cp, e_cvi, e_ex20, e_ex21, e_ex30, e_ex31, e_ex32, e_add, e_sub, e_mul, e_quo, e_rem, e_and, e_or, e_xor, e_shl, e_shr, e_eql, e_neq, e_lss, e_leq, e_gtr, e_geq, e_beq, e_bne, e_peq1, e_peq2, e_pne1, e_pne2, e_zeq1, e_zeq2, e_zne1, e_zne2, e_feq1, e_fne1, e_feq2, e_fne2, e_seq, e_sne, e_ta1, e_ta2, Nat.zero_add, Nat.add_zero, Bool.not_true, Bool.not_false]
    rw [rv_end (by omega)] at h1
    exact hK w1 h1 hk1 hz1
end
end Go.Proofs.Qxb6500898a
