import Derived.Test.Qxb6500895aD15
namespace Go.Proofs.Qxb6500895a
open Go.Sh Go.RowKit
set_option linter.unusedVariables false
set_option linter.unusedSimpArgs false

/-! ### the law's model in memory -/
def mt (kv : Value) (s : DS) : List Value := [.bool s.off, I s.left, kv, I s.torn, I s.at_, I s.rd, I s.wr, I s.fl, I s.cr, I s.rs]
structure Md (Q : Nat → Prop) (w : World) (mb : Nat) (fl fr : List Value) (kv : Value) (F : Nat → List Int) (G : Nat → Option (List Int)) (s : DS) : Prop where
  row : Row w mb 71 (fl ++ (fr ++ mt kv s))
  l1 : fl.length = 12
  l2 : fr.length = 12
  old : ∀ i, i < 12 → ∃ u, fl[i]? = some u ∧ SecV Q w u (some (F i))
  new : ∀ i, i < 12 → ∃ u, fr[i]? = some u ∧ SecV Q w u (G i)
  kvp : VsP Q I w kv s.keep
  qm : Q mb
  qs : ∀ b, Q b → b < w.heap.size
/-- what is known of the numbers -/
structure Bd (F : Nat → List Int) (G : Nat → Option (List Int)) (s : DS) : Prop where
  f : ∀ i, i < 12 → (F i).length = 16
  g : ∀ i x, i < 12 → G i = some x → x.length = 16
  k : s.keep.length ≤ 65536
  l0 : 0 ≤ s.left
  l1 : s.left ≤ 9223372036854775807

section
variable {Q Q' T : Nat → Prop} {w w' : World} {mb o : Nat} {fl fr : List Value} {kv v : Value} {F : Nat → List Int} {G : Nat → Option (List Int)} {s s' : DS} {K : Value → World → Prop} {R : World → Prop}

theorem mg1 {k : Nat} {t : List Value} (h1 : fl.length = 12) (hk : k < 12) : (fl ++ (fr ++ t))[k]? = fl[k]? := List.getElem?_append_left (by omega)
theorem mg2 {k : Nat} {t : List Value} (h1 : fl.length = 12) (h2 : fr.length = 12) (hk : k < 12) : (fl ++ (fr ++ t))[12 + k]? = fr[k]? := by
  rw [List.getElem?_append_right (by omega), h1, show 12 + k - 12 = k by omega, List.getElem?_append_left (by omega)]
theorem mg3 {k : Nat} {t : List Value} (h1 : fl.length = 12) (h2 : fr.length = 12) : (fl ++ (fr ++ t))[24 + k]? = t[k]? := by
  rw [List.getElem?_append_right (by omega), h1, List.getElem?_append_right (by omega), h2, show 24 + k - 12 - 12 = k by omega]
theorem ms1 {k : Nat} {t : List Value} (h1 : fl.length = 12) (hk : k < 12) : (fl ++ (fr ++ t)).set k v = fl.set k v ++ (fr ++ t) := by
  rw [List.set_append, if_pos (by omega)]
theorem ms2 {k : Nat} {t : List Value} (h1 : fl.length = 12) (h2 : fr.length = 12) (hk : k < 12) : (fl ++ (fr ++ t)).set (12 + k) v = fl ++ (fr.set k v ++ t) := by
  rw [List.set_append, if_neg (by omega), h1, show 12 + k - 12 = k by omega, List.set_append, if_pos (by omega)]
theorem ms3 {k : Nat} {t : List Value} (h1 : fl.length = 12) (h2 : fr.length = 12) : (fl ++ (fr ++ t)).set (24 + k) v = fl ++ (fr ++ t.set k v) := by
  rw [List.set_append, if_neg (by omega), h1, List.set_append, if_neg (by omega), h2, show 24 + k - 12 - 12 = k by omega]

/-- a change elsewhere -/
theorem Md.mv (h : Md Q w mb fl fr kv F G s) (hk : Kp T w w') (hT : ∀ b, T b → Q b) (hm : ¬ T mb) (hQ : ∀ b, Q' b → Q b ∨ w.heap.size ≤ b) (qm : Q' mb) (qs : ∀ b, Q' b → b < w'.heap.size) : Md Q' w' mb fl fr kv F G s :=
  ⟨hk.row h.row hm, h.l1, h.l2, fun i hi => by obtain ⟨u, a, b⟩ := h.old i hi; exact ⟨u, a, b.mv hk hT hQ⟩, fun i hi => by obtain ⟨u, a, b⟩ := h.new i hi; exact ⟨u, a, b.mv hk hT hQ⟩, h.kvp.mv hk (fun b _ q => hT b q) hQ, qm, qs⟩
theorem Md.kp' (h : Md Q w mb fl fr kv F G s) (hk : Kp (fun _ => False) w w') : Md Q w' mb fl fr kv F G s :=
  h.mv hk (fun _ q => q.elim) (fun q => q) (fun _ q => .inl q) h.qm (fun b q => Nat.lt_of_lt_of_le (h.qs b q) hk.size)
theorem Md.congr {F' : Nat → List Int} {G' : Nat → Option (List Int)} (h : Md Q w mb fl fr kv F G s) (h1 : ∀ i, i < 12 → F i = F' i) (h2 : ∀ i, i < 12 → G i = G' i) : Md Q w mb fl fr kv F' G' s :=
  ⟨h.row, h.l1, h.l2, fun i hi => by rw [← h1 i hi]; exact h.old i hi, fun i hi => by rw [← h2 i hi]; exact h.new i hi, h.kvp, h.qm, h.qs⟩
/-- a change of the block itself -/
theorem Md.put (h : Md Q w mb fl fr kv F G s) (hk : Kp (fun b => b = mb) w w') {fl' fr' : List Value} {kv' : Value} {F' : Nat → List Int} {G' : Nat → Option (List Int)} (hr : Row w' mb 71 (fl' ++ (fr' ++ mt kv' s'))) (e1 : fl'.length = 12) (e2 : fr'.length = 12)
    (h1 : ∀ i, i < 12 → ∃ u, fl'[i]? = some u ∧ SecV Q w u (some (F' i))) (h2 : ∀ i, i < 12 → ∃ u, fr'[i]? = some u ∧ SecV Q w u (G' i)) (h3 : VsP Q I w kv' s'.keep) : Md Q w' mb fl' fr' kv' F' G' s' := by
  have hT : ∀ b, b = mb → Q b := fun b e => e ▸ h.qm
  exact ⟨hr, e1, e2, fun i hi => by obtain ⟨u, a, b⟩ := h1 i hi; exact ⟨u, a, b.mv hk hT (fun _ q => .inl q)⟩, fun i hi => by obtain ⟨u, a, b⟩ := h2 i hi; exact ⟨u, a, b.mv hk hT (fun _ q => .inl q)⟩, h3.mv hk (fun b _ e => hT b e) (fun _ q => .inl q), h.qm, fun b q => Nat.lt_of_lt_of_le (h.qs b q) hk.size⟩

theorem Md.ldT (h : Md Q w mb fl fr kv F G s) (k : Nat) (hv : (mt kv s)[k]? = some v) (ho : o = 24 + k) (hK : K v w) : ld1 (P mb o) K w := by
  subst ho
  exact ld1_r h.row (by rw [mg3 h.l1 h.l2]; exact hv) hK
theorem Md.stT (h : Md Q w mb fl fr kv F G s) (k : Nat) (s' : DS) (e : (mt kv s).set k v = mt kv s') (ek : s'.keep = s.keep) (ho : o = 24 + k) (hk10 : k < 10) (hs : scal v = true) (hR : ∀ w', Md Q w' mb fl fr kv F G s' → Kp (fun b => b = mb) w w' → R w') : st1 (P mb o) v R w := by
  subst ho
  have l1 := h.l1
  have l2 := h.l2
  refine st1_r h.row (by simp [mt, l1, l2]; omega) hs fun w1 r1 hk1 hz1 => ?_
  rw [ms3 l1 l2, e] at r1
  exact hR w1 (h.put hk1 r1 l1 l2 h.old h.new (by rw [ek]; exact h.kvp)) hk1
theorem Md.ldF (h : Md Q w mb fl fr kv F G s) {k : Nat} (hk : k < 12) (hK : ∀ u, fl[k]? = some u → SecV Q w u (some (F k)) → K u w) : ld1 (P mb k) K w := by
  obtain ⟨u, a, b⟩ := h.old k hk
  exact ld1_r h.row (by rw [mg1 h.l1 hk]; exact a) (hK u a b)
theorem Md.ldG (h : Md Q w mb fl fr kv F G s) {k : Nat} (hk : k < 12) (hK : ∀ u, fr[k]? = some u → SecV Q w u (G k) → K u w) : ld1 (P mb (12 + k)) K w := by
  obtain ⟨u, a, b⟩ := h.new k hk
  exact ld1_r h.row (by rw [mg2 h.l1 h.l2 hk]; exact a) (hK u a b)
theorem set_sec {l : List Value} {P1 : Value → Option (List Int) → Prop} {H : Nat → Option (List Int)} {k : Nat} {u : Value} {x : Option (List Int)} (hl : l.length = 12) (h : ∀ i, i < 12 → ∃ u, l[i]? = some u ∧ P1 u (H i)) (hx : P1 u x) : ∀ i, i < 12 → ∃ u', (l.set k u)[i]? = some u' ∧ P1 u' (upd H k x i) := by
  intro i hi
  rw [List.getElem?_set]
  unfold upd
  by_cases e : k = i
  · subst e; rw [if_pos rfl, if_pos (by omega), if_pos rfl]; exact ⟨u, rfl, hx⟩
  · rw [if_neg e, if_neg (fun q => e q.symm)]; exact h i hi
theorem Md.stF (h : Md Q w mb fl fr kv F G s) {k : Nat} {u : Value} {x : List Int} (hk : k < 12) (hx : SecV Q w u (some x)) (hR : ∀ w', Md Q w' mb (fl.set k u) fr kv (upd F k x) G s → Kp (fun b => b = mb) w w' → R w') : st1 (P mb k) u R w := by
  have l1 := h.l1
  refine st1_r h.row (by simp [l1]; omega) hx.sc fun w1 r1 hk1 hz1 => ?_
  rw [ms1 l1 hk] at r1
  refine hR w1 (h.put hk1 r1 (by rw [List.length_set]; exact l1) h.l2 (fun i hi => ?_) h.new h.kvp) hk1
  obtain ⟨u', a, b⟩ := set_sec (P1 := fun u o => SecV Q w u o) (H := fun i => some (F i)) (k := k) l1 h.old hx i hi
  refine ⟨u', a, ?_⟩
  have : upd (fun i => some (F i)) k (some x) i = some (upd F k x i) := by unfold upd; split <;> rfl
  rw [← this]; exact b
theorem Md.stG (h : Md Q w mb fl fr kv F G s) {k : Nat} {u : Value} {x : Option (List Int)} (hk : k < 12) (hx : SecV Q w u x) (hR : ∀ w', Md Q w' mb fl (fr.set k u) kv F (upd G k x) s → Kp (fun b => b = mb) w w' → R w') : st1 (P mb (12 + k)) u R w := by
  have l2 := h.l2
  refine st1_r h.row (by simp [h.l1, l2]; omega) hx.sc fun w1 r1 hk1 hz1 => ?_
  rw [ms2 h.l1 l2 hk] at r1
  exact hR w1 (h.put hk1 r1 h.l1 (by rw [List.length_set]; exact l2) h.old (set_sec (P1 := fun u o => SecV Q w u o) l2 h.new hx) h.kvp) hk1
theorem ix0 {k : Nat} (hk : k < 12) (hK : K (P mb k) w) : ixa 12 1 (P mb 0) (I (k : Nat)) K w := by
  refine ⟨⟨by omega, by omega⟩, ?_⟩
  rw [add_mk, show ((k : Int)).toNat = k by omega, Nat.zero_add, Nat.mul_one]
  exact hK
theorem ix12 {k : Nat} (hk : k < 12) (hK : K (P mb (12 + k)) w) : ixa 12 1 (P mb 12) (I (k : Nat)) K w := by
  refine ⟨⟨by omega, by omega⟩, ?_⟩
  rw [add_mk, show ((k : Int)).toNat = k by omega, Nat.mul_one]
  exact hK

/-! ### the model's helpers -/
theorem refusal_ok {i n : Int} (h : Md Q w mb fl fr kv F G s) (hK : K (I (chkC s i n)) w) : cl Try.prog 63 #[P mb 0, I i, I n] K w := by
  apply c63
  unfold s63_p1
  simp only [e_fd, e_nck, e_pkt, e_pkf, e_gdtt, e_gdtf, e_gdft, e_gdff, e_ift, e_iff, e_not, e_ln, e_lnT, e_cp, e_cvi, e_ex20, e_ex21, e_ex30, e_ex31, e_ex32, e_add, e_sub, e_mul, e_quo, e_rem, e_and, e_or, e_xor, e_shl, e_shr, e_eql, e_neq, e_lss, e_leq, e_gtr, e_geq, e_beq, e_bne, e_peq1, e_peq2, e_pne1, e_pne2, e_zeq1, e_zeq2, e_zne1, e_zne2, e_feq1, e_fne1, e_feq2, e_fne2, e_seq, e_sne, e_ta1, e_ta2, Nat.zero_add, Nat.add_zero, Bool.not_true, Bool.not_false]
  refine h.ldT 0 rfl rfl ?_
  unfold chkC at hK
  cases ho : s.off with
  | true =>
    rw [ho, if_pos rfl] at hK
    simp only [e_fd, e_nck, e_pkt, e_pkf, e_gdtt, e_gdtf, e_gdft, e_gdff, e_ift, e_iff, e_not, e_ln, e_lnT, e_cp, e_cvi, e_ex20, e_ex21, e_ex30, e_ex31, e_ex32, e_add, e_sub, e_mul, e_quo, e_rem, e_and, e_or, e_xor, e_shl, e_shr, e_eql, e_neq, e_lss, e_leq, e_gtr, e_geq, e_beq, e_bne, e_peq1, e_peq2, e_pne1, e_pne2, e_zeq1, e_zeq2, e_zne1, e_zne2, e_feq1, e_fne1, e_feq2, e_fne2, e_seq, e_sne, e_ta1, e_ta2, Nat.zero_add, Nat.add_zero, Bool.not_true, Bool.not_false]
    exact hK
  | false =>
    rw [ho, if_neg (by decide)] at hK
    simp only [e_fd, e_nck, e_pkt, e_pkf, e_gdtt, e_gdtf, e_gdft, e_gdff, e_ift, e_iff, e_not, e_ln, e_lnT, e_cp, e_cvi, e_ex20, e_ex21, e_ex30, e_ex31, e_ex32, e_add, e_sub, e_mul, e_quo, e_rem, e_and, e_or, e_xor, e_shl, e_shr, e_eql, e_neq, e_lss, e_leq, e_gtr, e_geq, e_beq, e_bne, e_peq1, e_peq2, e_pne1, e_pne2, e_zeq1, e_zeq2, e_zne1, e_zne2, e_feq1, e_fne1, e_feq2, e_fne2, e_seq, e_sne, e_ta1, e_ta2, Nat.zero_add, Nat.add_zero, Bool.not_true, Bool.not_false]
    have ok : (0 ≤ i ∧ i < 12) → (boI .neq (I n) (.int .i64 16) (fun t18 w => ifb t18 (K (.int .i64 2) w) (K (.int .i64 0) w)) w) := by
      intro hi
      rw [if_neg (by simpa using hi)] at hK
      by_cases c2 : n = 16
      · have e : (n != 16) = false := by simpa using c2
        simp only [e, e_fd, e_nck, e_pkt, e_pkf, e_gdtt, e_gdtf, e_gdft, e_gdff, e_ift, e_iff, e_not, e_ln, e_lnT, e_cp, e_cvi, e_ex20, e_ex21, e_ex30, e_ex31, e_ex32, e_add, e_sub, e_mul, e_quo, e_rem, e_and, e_or, e_xor, e_shl, e_shr, e_eql, e_neq, e_lss, e_leq, e_gtr, e_geq, e_beq, e_bne, e_peq1, e_peq2, e_pne1, e_pne2, e_zeq1, e_zeq2, e_zne1, e_zne2, e_feq1, e_fne1, e_feq2, e_fne2, e_seq, e_sne, e_ta1, e_ta2, Nat.zero_add, Nat.add_zero, Bool.not_true, Bool.not_false]
        rw [if_neg (by simpa using c2)] at hK
        exact hK
      · have e : (n != 16) = true := by simpa using c2
        simp only [e, e_fd, e_nck, e_pkt, e_pkf, e_gdtt, e_gdtf, e_gdft, e_gdff, e_ift, e_iff, e_not, e_ln, e_lnT, e_cp, e_cvi, e_ex20, e_ex21, e_ex30, e_ex31, e_ex32, e_add, e_sub, e_mul, e_quo, e_rem, e_and, e_or, e_xor, e_shl, e_shr, e_eql, e_neq, e_lss, e_leq, e_gtr, e_geq, e_beq, e_bne, e_peq1, e_peq2, e_pne1, e_pne2, e_zeq1, e_zeq2, e_zne1, e_zne2, e_feq1, e_fne1, e_feq2, e_fne2, e_seq, e_sne, e_ta1, e_ta2, Nat.zero_add, Nat.add_zero, Bool.not_true, Bool.not_false]
        rw [if_pos c2] at hK
        exact hK
    simp only [e_fd, e_nck, e_pkt, e_pkf, e_gdtt, e_gdtf, e_gdft, e_gdff, e_ift, e_iff, e_not, e_ln, e_lnT, e_cp, e_cvi, e_ex20, e_ex21, e_ex30, e_ex31, e_ex32, e_add, e_sub, e_mul, e_quo, e_rem, e_and, e_or, e_xor, e_shl, e_shr, e_eql, e_neq, e_lss, e_leq, e_gtr, e_geq, e_beq, e_bne, e_peq1, e_peq2, e_pne1, e_pne2, e_zeq1, e_zeq2, e_zne1, e_zne2, e_feq1, e_fne1, e_feq2, e_fne2, e_seq, e_sne, e_ta1, e_ta2, Nat.zero_add, Nat.add_zero, Bool.not_true, Bool.not_false] at ok
    by_cases c0 : i < 0
    · simp only [c0, decide_true, e_fd, e_nck, e_pkt, e_pkf, e_gdtt, e_gdtf, e_gdft, e_gdff, e_ift, e_iff, e_not, e_ln, e_lnT, e_cp, e_cvi, e_ex20, e_ex21, e_ex30, e_ex31, e_ex32, e_add, e_sub, e_mul, e_quo, e_rem, e_and, e_or, e_xor, e_shl, e_shr, e_eql, e_neq, e_lss, e_leq, e_gtr, e_geq, e_beq, e_bne, e_peq1, e_peq2, e_pne1, e_pne2, e_zeq1, e_zeq2, e_zne1, e_zne2, e_feq1, e_fne1, e_feq2, e_fne2, e_seq, e_sne, e_ta1, e_ta2, Nat.zero_add, Nat.add_zero, Bool.not_true, Bool.not_false]
      rw [if_pos (by omega)] at hK
      exact hK
    · simp only [c0, decide_false, e_fd, e_nck, e_pkt, e_pkf, e_gdtt, e_gdtf, e_gdft, e_gdff, e_ift, e_iff, e_not, e_ln, e_lnT, e_cp, e_cvi, e_ex20, e_ex21, e_ex30, e_ex31, e_ex32, e_add, e_sub, e_mul, e_quo, e_rem, e_and, e_or, e_xor, e_shl, e_shr, e_eql, e_neq, e_lss, e_leq, e_gtr, e_geq, e_beq, e_bne, e_peq1, e_peq2, e_pne1, e_pne2, e_zeq1, e_zeq2, e_zne1, e_zne2, e_feq1, e_fne1, e_feq2, e_fne2, e_seq, e_sne, e_ta1, e_ta2, Nat.zero_add, Nat.add_zero, Bool.not_true, Bool.not_false]
      by_cases c1 : 12 ≤ i
      · simp only [c1, decide_true, e_fd, e_nck, e_pkt, e_pkf, e_gdtt, e_gdtf, e_gdft, e_gdff, e_ift, e_iff, e_not, e_ln, e_lnT, e_cp, e_cvi, e_ex20, e_ex21, e_ex30, e_ex31, e_ex32, e_add, e_sub, e_mul, e_quo, e_rem, e_and, e_or, e_xor, e_shl, e_shr, e_eql, e_neq, e_lss, e_leq, e_gtr, e_geq, e_beq, e_bne, e_peq1, e_peq2, e_pne1, e_pne2, e_zeq1, e_zeq2, e_zne1, e_zne2, e_feq1, e_fne1, e_feq2, e_fne2, e_seq, e_sne, e_ta1, e_ta2, Nat.zero_add, Nat.add_zero, Bool.not_true, Bool.not_false]
        rw [if_pos (by omega)] at hK
        exact hK
      · simp only [c1, decide_false, e_fd, e_nck, e_pkt, e_pkf, e_gdtt, e_gdtf, e_gdft, e_gdff, e_ift, e_iff, e_not, e_ln, e_lnT, e_cp, e_cvi, e_ex20, e_ex21, e_ex30, e_ex31, e_ex32, e_add, e_sub, e_mul, e_quo, e_rem, e_and, e_or, e_xor, e_shl, e_shr, e_eql, e_neq, e_lss, e_leq, e_gtr, e_geq, e_beq, e_bne, e_peq1, e_peq2, e_pne1, e_pne2, e_zeq1, e_zeq2, e_zne1, e_zne2, e_feq1, e_fne1, e_feq2, e_fne2, e_seq, e_sne, e_ta1, e_ta2, Nat.zero_add, Nat.add_zero, Bool.not_true, Bool.not_false]
        exact ok (by omega)

theorem now_ok {k : Nat} (h : Md Q w mb fl fr kv F G s) (hk : k < 12) (hK : ∀ u, SecV Q w u (some ((G k).getD (F k))) → K u w) : cl Try.prog 50 #[P mb 0, I (k : Nat)] K w := by
  apply c50
  unfold s50_p1
  simp only [e_fd, e_nck, e_pkt, e_pkf, e_gdtt, e_gdtf, e_gdft, e_gdff, e_ift, e_iff, e_not, e_ln, e_lnT, e_cp, e_cvi, e_ex20, e_ex21, e_ex30, e_ex31, e_ex32, e_add, e_sub, e_mul, e_quo, e_rem, e_and, e_or, e_xor, e_shl, e_shr, e_eql, e_neq, e_lss, e_leq, e_gtr, e_geq, e_beq, e_bne, e_peq1, e_peq2, e_pne1, e_pne2, e_zeq1, e_zeq2, e_zne1, e_zne2, e_feq1, e_fne1, e_feq2, e_fne2, e_seq, e_sne, e_ta1, e_ta2, Nat.zero_add, Nat.add_zero, Bool.not_true, Bool.not_false]
  refine ix12 hk ?_
  refine h.ldG hk fun u hu hsu => ?_
  cases hg : G k with
  | none =>
    rw [hg] at hsu hK
    rw [hsu.nl]
    simp only [e_fd, e_nck, e_pkt, e_pkf, e_gdtt, e_gdtf, e_gdft, e_gdff, e_ift, e_iff, e_not, e_ln, e_lnT, e_cp, e_cvi, e_ex20, e_ex21, e_ex30, e_ex31, e_ex32, e_add, e_sub, e_mul, e_quo, e_rem, e_and, e_or, e_xor, e_shl, e_shr, e_eql, e_neq, e_lss, e_leq, e_gtr, e_geq, e_beq, e_bne, e_peq1, e_peq2, e_pne1, e_pne2, e_zeq1, e_zeq2, e_zne1, e_zne2, e_feq1, e_fne1, e_feq2, e_fne2, e_seq, e_sne, e_ta1, e_ta2, Nat.zero_add, Nat.add_zero, Bool.not_true, Bool.not_false]
    refine ix0 hk ?_
    refine h.ldF hk fun u' hu' hsu' => ?_
    exact hK u' hsu'
  | some x =>
    rw [hg] at hsu hK
    obtain ⟨a, n, c, e⟩ := hsu.nn
    rw [e]
    simp only [e_fd, e_nck, e_pkt, e_pkf, e_gdtt, e_gdtf, e_gdft, e_gdff, e_ift, e_iff, e_not, e_ln, e_lnT, e_cp, e_cvi, e_ex20, e_ex21, e_ex30, e_ex31, e_ex32, e_add, e_sub, e_mul, e_quo, e_rem, e_and, e_or, e_xor, e_shl, e_shr, e_eql, e_neq, e_lss, e_leq, e_gtr, e_geq, e_beq, e_bne, e_peq1, e_peq2, e_pne1, e_pne2, e_zeq1, e_zeq2, e_zne1, e_zne2, e_feq1, e_fne1, e_feq2, e_fne2, e_seq, e_sne, e_ta1, e_ta2, Nat.zero_add, Nat.add_zero, Bool.not_true, Bool.not_false]
    refine ix12 hk ?_
    refine ld1_r h.row (v := u) (by rw [mg2 h.l1 h.l2 hk]; exact hu) ?_
    exact hK u hsu

def u1 (n : Int) : List Value := [U8 n]
theorem u1_len (x : Int) : (u1 x).length = 1 := rfl
theorem rows_u1 (xs : List Int) : rows u1 xs = xs.map U8 := by
  induction xs with
  | nil => rfl
  | cons x xs ih => rw [rows_cons, ih]; rfl

theorem mixv_ok {a b : Value} {x y : List Int} {at_ : Int} (ha : Vs U8 w a x) (hb : Vs U8 w b y) (hx : x.length = 16) (hy : y.length = 16) (hq : ∀ b, Q b → b < w.heap.size)
    (hK : ∀ w' v, Kp (fun _ => False) w w' → SecV Q w' v (some (x.take (clampN at_) ++ y.drop (clampN at_))) → K v w') : cl Try.prog 65 #[a, b, I at_] K w := by
  apply c65
  unfold s65_p5
  refine bsq_r (l := []) (by simp [zrep, fillL]) fun w1 r1 hk1 hz1 => ?_
  refine (hb.kp' hk1).ln ?_
  rw [hy]
  have hcl := clampN_le at_
  refine ⟨fun n l w' => ∃ (i : Nat) (ob : Nat) (ov : Value), i ≤ 16 ∧ n = 16 - i ∧ l = [a, b, I at_, ov, I (16 : Nat), I i] ∧ w.heap.size ≤ ob ∧ Sl u1 1 w' 5 (some ob) ov ((x.take (clampN at_) ++ y.drop (clampN at_)).take i) ∧ Kp (fun _ => False) w w',
    16, ⟨0, w.heap.size, _, by omega, by omega, rfl, Nat.le_refl _, ⟨0, [], rfl, by simp, by simp, by simpa [rows] using r1⟩, hk1⟩, ?_⟩
  rintro n l w2 ⟨i, ob, ov, hi, rfl, rfl, hob, hsl, hk2⟩
  rw [s65_p4_Fe]
  unfold s65_p3
  simp only [e_fd, e_nck, e_pkt, e_pkf, e_gdtt, e_gdtf, e_gdft, e_gdff, e_ift, e_iff, e_not, e_ln, e_lnT, e_cp, e_cvi, e_ex20, e_ex21, e_ex30, e_ex31, e_ex32, e_add, e_sub, e_mul, e_quo, e_rem, e_and, e_or, e_xor, e_shl, e_shr, e_eql, e_neq, e_lss, e_leq, e_gtr, e_geq, e_beq, e_bne, e_peq1, e_peq2, e_pne1, e_pne2, e_zeq1, e_zeq2, e_zne1, e_zne2, e_feq1, e_fne1, e_feq2, e_fne2, e_seq, e_sne, e_ta1, e_ta2, Nat.zero_add, Nat.add_zero, Bool.not_true, Bool.not_false]
  have hlen : (x.take (clampN at_) ++ y.drop (clampN at_)).length = 16 := by rw [List.length_append, List.length_take, List.length_drop]; omega
  by_cases hlt : i < 16
  · have hlt' : (i : Int) < ((16 : Nat) : Int) := by omega
    simp only [hlt', decide_true, e_fd, e_nck, e_pkt, e_pkf, e_gdtt, e_gdtf, e_gdft, e_gdff, e_ift, e_iff, e_not, e_ln, e_lnT, e_cp, e_cvi, e_ex20, e_ex21, e_ex30, e_ex31, e_ex32, e_add, e_sub, e_mul, e_quo, e_rem, e_and, e_or, e_xor, e_shl, e_shr, e_eql, e_neq, e_lss, e_leq, e_gtr, e_geq, e_beq, e_bne, e_peq1, e_peq2, e_pne1, e_pne2, e_zeq1, e_zeq2, e_zne1, e_zne2, e_feq1, e_fne1, e_feq2, e_fne2, e_seq, e_sne, e_ta1, e_ta2, Nat.zero_add, Nat.add_zero, Bool.not_true, Bool.not_false]
    have tl : ((x.take (clampN at_) ++ y.drop (clampN at_)).take i).length = i := by rw [List.length_take]; omega
    have stp : ∀ z, (x.take (clampN at_) ++ y.drop (clampN at_))[i]'(by omega) = z → ∀ w' v' ob', Sl u1 1 w' 5 ob' v' ((x.take (clampN at_) ++ y.drop (clampN at_)).take i ++ [z]) → Kp (fun b => some ob = some b) w2 w' → (ob' = some ob ∨ ∃ b, ob' = some b ∧ w2.heap.size ≤ b) →
        s65_p2 K (fun l' w' => ∃ n', n' < 16 - i ∧ ∃ (i : Nat) (ob : Nat) (ov : Value), i ≤ 16 ∧ n' = 16 - i ∧ l' = [a, b, I at_, ov, I (16 : Nat), I i] ∧ w.heap.size ≤ ob ∧ Sl u1 1 w' 5 (some ob) ov ((x.take (clampN at_) ++ y.drop (clampN at_)).take i) ∧ Kp (fun _ => False) w w') a b (I at_) v' (I (16 : Nat)) (I i) w' := by
      intro z hz w' v' ob' hs' hk' ho'
      unfold s65_p2
      simp only [e_fd, e_nck, e_pkt, e_pkf, e_gdtt, e_gdtf, e_gdft, e_gdff, e_ift, e_iff, e_not, e_ln, e_lnT, e_cp, e_cvi, e_ex20, e_ex21, e_ex30, e_ex31, e_ex32, e_add, e_sub, e_mul, e_quo, e_rem, e_and, e_or, e_xor, e_shl, e_shr, e_eql, e_neq, e_lss, e_leq, e_gtr, e_geq, e_beq, e_bne, e_peq1, e_peq2, e_pne1, e_pne2, e_zeq1, e_zeq2, e_zne1, e_zne2, e_feq1, e_fne1, e_feq2, e_fne2, e_seq, e_sne, e_ta1, e_ta2, Nat.zero_add, Nat.add_zero, Bool.not_true, Bool.not_false]
      rw [wrap64_id (by omega) (by omega)]
      have s2 := hk2.size
      obtain ⟨b', hb', hbs⟩ : ∃ b', ob' = some b' ∧ w.heap.size ≤ b' := by
        rcases ho' with q | ⟨b', q, hb⟩
        · exact ⟨ob, q, hob⟩
        · exact ⟨b', q, by omega⟩
      rw [hb'] at hs'
      refine ⟨16 - (i + 1), by omega, i + 1, b', v', by omega, rfl, by simp, hbs, ?_, hk2.then hk' (fun k hk q => by cases q; omega)⟩
      rw [List.take_succ_eq_append_getElem (by omega), hz]
      exact hs'
    by_cases hat : (i : Int) < at_
    · simp only [hat, decide_true, e_fd, e_nck, e_pkt, e_pkf, e_gdtt, e_gdtf, e_gdft, e_gdff, e_ift, e_iff, e_not, e_ln, e_lnT, e_cp, e_cvi, e_ex20, e_ex21, e_ex30, e_ex31, e_ex32, e_add, e_sub, e_mul, e_quo, e_rem, e_and, e_or, e_xor, e_shl, e_shr, e_eql, e_neq, e_lss, e_leq, e_gtr, e_geq, e_beq, e_bne, e_peq1, e_peq2, e_pne1, e_pne2, e_zeq1, e_zeq2, e_zne1, e_zne2, e_feq1, e_fne1, e_feq2, e_fne2, e_seq, e_sne, e_ta1, e_ta2, Nat.zero_add, Nat.add_zero, Bool.not_true, Bool.not_false]
      have hic : i < clampN at_ := by unfold clampN; rw [if_neg (by omega)]; split <;> omega
      refine (ha.kp' hk2).ix (i := i) (by omega) fun b1 q1 l1 => l1 _ ?_
      refine hsl.app u1_len rfl (x[i]'(by omega)) rfl (by rw [tl]; omega) (by rw [tl]; omega) rfl fun w3 v3 o3 h3 hk3 ho3 => ?_
      refine stp _ ?_ w3 v3 o3 h3 hk3 ho3
      rw [List.getElem_append_left (by rw [List.length_take]; omega), List.getElem_take]
    · simp only [hat, decide_false, e_fd, e_nck, e_pkt, e_pkf, e_gdtt, e_gdtf, e_gdft, e_gdff, e_ift, e_iff, e_not, e_ln, e_lnT, e_cp, e_cvi, e_ex20, e_ex21, e_ex30, e_ex31, e_ex32, e_add, e_sub, e_mul, e_quo, e_rem, e_and, e_or, e_xor, e_shl, e_shr, e_eql, e_neq, e_lss, e_leq, e_gtr, e_geq, e_beq, e_bne, e_peq1, e_peq2, e_pne1, e_pne2, e_zeq1, e_zeq2, e_zne1, e_zne2, e_feq1, e_fne1, e_feq2, e_fne2, e_seq, e_sne, e_ta1, e_ta2, Nat.zero_add, Nat.add_zero, Bool.not_true, Bool.not_false]
      have hic : clampN at_ ≤ i := by unfold clampN; split; omega; split <;> omega
      refine (hb.kp' hk2).ix (i := i) (by omega) fun b1 q1 l1 => l1 _ ?_
      refine hsl.app u1_len rfl (y[i]'(by omega)) rfl (by rw [tl]; omega) (by rw [tl]; omega) rfl fun w3 v3 o3 h3 hk3 ho3 => ?_
      refine stp _ ?_ w3 v3 o3 h3 hk3 ho3
      rw [List.getElem_append_right (by rw [List.length_take]; omega), List.getElem_drop]
      congr 1
      rw [List.length_take]; omega
  · have hlt' : ¬ (i : Int) < ((16 : Nat) : Int) := by omega
    simp only [hlt', decide_false, e_fd, e_nck, e_pkt, e_pkf, e_gdtt, e_gdtf, e_gdft, e_gdff, e_ift, e_iff, e_not, e_ln, e_lnT, e_cp, e_cvi, e_ex20, e_ex21, e_ex30, e_ex31, e_ex32, e_add, e_sub, e_mul, e_quo, e_rem, e_and, e_or, e_xor, e_shl, e_shr, e_eql, e_neq, e_lss, e_leq, e_gtr, e_geq, e_beq, e_bne, e_peq1, e_peq2, e_pne1, e_pne2, e_zeq1, e_zeq2, e_zne1, e_zne2, e_feq1, e_fne1, e_feq2, e_fne2, e_seq, e_sne, e_ta1, e_ta2, Nat.zero_add, Nat.add_zero, Bool.not_true, Bool.not_false]
    unfold s65_p1
    rw [List.take_of_length_le (by omega)] at hsl
    obtain ⟨cap, junk, e1, e2, e3, e4⟩ := hsl
    rw [rows_u1] at e4
    exact hK w2 ov hk2 (.inr ⟨_, ob, cap, junk, rfl, e1, e2, by omega, e4, fun q => by have := hq _ q; omega⟩)
end
end Go.Proofs.Qxb6500895a
