import Derived.Test.Qxb6500898aU6
namespace Go.Proofs.Qxb6500898a
open Go.Sh Go.RowKit
set_option linter.unusedVariables false
set_option linter.unusedSimpArgs false

def u1 (x : Int) : List Value := [U8 x]
theorem u1_len (x : Int) : (u1 x).length = 1 := rfl
theorem rows_u1 (xs : List Int) : rows u1 xs = xs.map U8 := by
  induction xs with
  | nil => rfl
  | cons x xs ih => rw [rows_cons, ih]; rfl
theorem sl_bs {w : World} {ob : Option Nat} {v : Value} {xs : List Int} (h : Sl u1 1 w 5 ob v xs) (hb : ∀ x ∈ xs, 0 ≤ x ∧ x ≤ 255) (hc : xs.length ≤ 9223372036854775807) : Bs w v xs := by
  refine ⟨hb, ?_⟩
  cases ob with
  | none => exact .inl h
  | some b =>
    obtain ⟨cap, junk, rfl, h2, h3, h4⟩ := h
    refine .inr (.inr ⟨b, 0, cap, rfl, h2, hc, ?_⟩)
    intro j hj
    rw [rows_u1] at h4
    rw [h4.cell, Nat.zero_add, List.getElem?_append_left hj]

/-- two octets more -/
theorem app_two {w : World} {ob : Option Nat} {t : Value} {ys : List Int} {a b : Int} {K : Value → World → Prop} (h : Sl u1 1 w 5 ob t ys) (hl : ys.length ≤ 4398046511104)
    (hK : ∀ w' t' ob', Sl u1 1 w' 5 ob' t' (ys ++ [a, b]) → Kp (fun b => ob = some b) w w' → (ob' = ob ∨ ∃ b, ob' = some b ∧ w.heap.size ≤ b) → K t' w') :
    bsq 5 [(.int .u8 0)] 2 [(some (0, 1), U8 a), (some (1, 1), U8 b)] (fun t39 w => apq 5 [(.int .u8 0)] 1 t t39 K w) w := by
  refine bsq_r (l := [U8 a, U8 b]) rfl fun w1 r1 hk1 hz1 => ?_
  have h2 : Sl u1 1 w1 5 (some w.heap.size) (.slice (some ⟨w.heap.size, 0, none⟩) 2 2) [a, b] := ⟨2, [], rfl, Nat.le_refl _, rfl, r1⟩
  refine (h.kp' hk1).app2 u1_len rfl (fun _ _ => rfl) h2 (by simp only [List.length_cons, List.length_nil]; omega) (by simp only [List.length_cons, List.length_nil]; omega) fun w' t' ob' hs hk ho => ?_
  refine hK w' t' ob' hs (hk1.none.trans hk) ?_
  rcases ho with q | ⟨b, q, q2⟩
  · exact .inl q
  · exact .inr ⟨b, q, by omega⟩

/-- capacities stay in bounds -/
def le2 (us : List Int) : List Int := us.flatMap (fun u => [u % 256, u / 256])
theorem le2_app (us : List Int) (u : Int) : le2 (us ++ [u]) = le2 us ++ [u % 256, u / 256] := by simp [le2]
theorem le2_len (us : List Int) : (le2 us).length = 2 * us.length := by
  induction us with
  | nil => rfl
  | cons u us ih => simp only [le2, List.flatMap_cons, List.length_append, List.length_cons, List.length_nil] at *; omega
theorem le2_by {us : List Int} (h : ∀ u ∈ us, 0 ≤ u ∧ u ≤ 65535) : ∀ x ∈ le2 us, 0 ≤ x ∧ x ≤ 255 := by
  intro x hx
  simp only [le2, List.mem_flatMap] at hx
  obtain ⟨u, hu, hx⟩ := hx
  have := h u hu
  simp at hx
  omega
def units (r : List Int) : List Int := r.flatMap sp16
theorem units_app (r : List Int) (v : Int) : units (r ++ [v]) = units r ++ sp16 v := by simp [units]
theorem sp16_by {v : Int} (h : isSc v) : ∀ u ∈ sp16 v, 0 ≤ u ∧ u ≤ 65535 := by
  intro u hu
  unfold isSc at h
  unfold sp16 at hu
  split at hu
  · simp at hu; omega
  · simp at hu; omega
theorem sp16_len (v : Int) : 1 ≤ (sp16 v).length ∧ (sp16 v).length ≤ 2 := by
  unfold sp16
  split <;> simp
theorem units_by {r : List Int} (h : ∀ v ∈ r, isSc v) : ∀ u ∈ units r, 0 ≤ u ∧ u ≤ 65535 := by
  intro u hu
  simp only [units, List.mem_flatMap] at hu
  obtain ⟨v, hv, hu⟩ := hu
  exact sp16_by (h v hv) u hu
theorem units_len (r : List Int) : (units r).length ≤ 2 * r.length := by
  induction r with
  | nil => simp [units]
  | cons v r ih => have := (sp16_len v).2; simp only [units, List.flatMap_cons, List.length_append, List.length_cons] at *; omega
theorem units_len1 (r : List Int) : r.length ≤ (units r).length := by
  induction r with
  | nil => simp [units]
  | cons v r ih => have := (sp16_len v).1; simp only [units, List.flatMap_cons, List.length_append, List.length_cons] at *; omega

/-- a unit's two octets, appended -/
theorem unit_app {w : World} {ob : Option Nat} {t : Value} {us : List Int} {u : Int} {K : Value → World → Prop} (h : Sl u1 1 w 5 ob t (le2 us)) (hu : 0 ≤ u ∧ u ≤ 65535) (hl : us.length ≤ 2199023255552)
    (hK : ∀ w' t' ob', Sl u1 1 w' 5 ob' t' (le2 (us ++ [u])) → Kp (fun b => ob = some b) w w' → (ob' = ob ∨ ∃ b, ob' = some b ∧ w.heap.size ≤ b) → K t' w') :
    boI .rem (I u) (.int .i64 256) (fun t34 w =>
  cvi .u8 t34 (fun t35 w =>
  boI .quo (I u) (.int .i64 256) (fun t37 w =>
  cvi .u8 t37 (fun t38 w =>
  bsq 5 [(.int .u8 0)] 2 [(some (0, 1), t35), (some (1, 1), t38)] (fun t39 w =>
  apq 5 [(.int .u8 0)] 1 t t39 K w) w) w) w) w) w := by
  try simp only [e_fd, e_nck, e_pkt, e_pkf, e_gdtt, e_gdtf, e_gdft, e_gdff, e_ift, e_iff, e_not, e_ln, e_lnT, e_cp, e_cvi, e_ex20, e_ex21, e_ex30, e_ex31, e_ex32, e_add, e_sub, e_mul, e_quo, e_rem, e_and, e_or, e_xor, e_shl, e_shr, e_eql, e_neq, e_lss, e_leq, e_gtr, e_geq, e_beq, e_bne, e_peq1, e_peq2, e_pne1, e_pne2, e_zeq1, e_zeq2, e_zne1, e_zne2, e_feq1, e_fne1, e_feq2, e_fne2, e_seq, e_sne, e_ta1, e_ta2, Nat.zero_add, Nat.add_zero, Bool.not_true, Bool.not_false]
  refine ⟨by decide, by decide, ?_⟩
  rw [tmod_pos hu.1, tdiv_pos hu.1, wrap64_id (n := u / 256) (by omega) (by omega), wrapu8, wrapu8]
  rw [show u % 256 % 256 = u % 256 by omega, show u / 256 % 256 = u / 256 by omega]
  refine app_two h (by rw [le2_len]; omega) ?_
  rw [← le2_app]
  exact hK

/-- a new block, kept up to date -/
def Nw (w : World) (ob : Option Nat) : Prop := ∀ b, ob = some b → w.heap.size ≤ b
theorem Nw.step {w w1 : World} {ob ob' : Option Nat} (h : Nw w ob) (hk : Kp (fun _ => False) w w1) (ho : ob' = ob ∨ ∃ b, ob' = some b ∧ w1.heap.size ≤ b) : Nw w ob' := by
  intro b hb
  rcases ho with q | ⟨b', q, q2⟩
  · exact h b (by rw [← q]; exact hb)
  · rw [q] at hb; cases hb; exact Nat.le_trans hk.size q2
theorem Nw.kp {w w1 w2 : World} {ob : Option Nat} (h : Nw w ob) (hk : Kp (fun _ => False) w w1) (hk2 : Kp (fun b => ob = some b) w1 w2) : Kp (fun _ => False) w w2 :=
  hk.then hk2 (fun k hk q => absurd (h k q) (by omega))

theorem utf16m_ok {w : World} {v : Value} {xs : List Int} {K : Value → World → Prop} (h : Bs w v xs) (hl : xs.length ≤ 1099511627776)
    (hK1 : ∀ w', Kp (fun _ => False) w w' → D xs = none → K (.tuple #[.slice none 0 0, .bool false]) w')
    (hK2 : ∀ w' t r ob, D xs = some r → Sl u1 1 w' 5 ob t (le2 (units r)) → Nw w ob → Kp (fun _ => False) w w' → K (.tuple #[t, .bool true]) w') : cl Try.prog 58 #[v] K w := by
  apply c58
  unfold s58_p8
  refine scalars_ok h hl (fun w1 hk1 hd => ?_) (fun w1 t14 r ob1 hd hsl1 hob1 hk1 hrl => ?_)
  · simp only [e_fd, e_nck, e_pkt, e_pkf, e_gdtt, e_gdtf, e_gdft, e_gdff, e_ift, e_iff, e_not, e_ln, e_lnT, e_cp, e_cvi, e_ex20, e_ex21, e_ex30, e_ex31, e_ex32, e_add, e_sub, e_mul, e_quo, e_rem, e_and, e_or, e_xor, e_shl, e_shr, e_eql, e_neq, e_lss, e_leq, e_gtr, e_geq, e_beq, e_bne, e_peq1, e_peq2, e_pne1, e_pne2, e_zeq1, e_zeq2, e_zne1, e_zne2, e_feq1, e_fne1, e_feq2, e_fne2, e_seq, e_sne, e_ta1, e_ta2, Nat.zero_add, Nat.add_zero, Bool.not_true, Bool.not_false]
    exact hK1 w1 hk1 hd
  · simp only [e_fd, e_nck, e_pkt, e_pkf, e_gdtt, e_gdtf, e_gdft, e_gdff, e_ift, e_iff, e_not, e_ln, e_lnT, e_cp, e_cvi, e_ex20, e_ex21, e_ex30, e_ex31, e_ex32, e_add, e_sub, e_mul, e_quo, e_rem, e_and, e_or, e_xor, e_shl, e_shr, e_eql, e_neq, e_lss, e_leq, e_gtr, e_geq, e_beq, e_bne, e_peq1, e_peq2, e_pne1, e_pne2, e_zeq1, e_zeq2, e_zne1, e_zne2, e_feq1, e_fne1, e_feq2, e_fne2, e_seq, e_sne, e_ta1, e_ta2, Nat.zero_add, Nat.add_zero, Bool.not_true, Bool.not_false]
    have hsc := D_by h.by_ hd
    refine Sl.empty (f := u1) (k := 1) fun w2 hsl2 hk2 hz2 => ?_
    refine (hsl1.kp' hk2).ln ?_
    unfold s58_p7
    have hk02 := hk1.trans hk2
    refine ⟨fun m l w' => ∃ (i : Nat) (t6 : Value) (ob : Option Nat), i ≤ r.length ∧ m = r.length - i ∧ l = [t6, t14, I r.length, I i] ∧ Sl u1 1 w' 5 ob t6 (le2 (units (r.take i))) ∧ Nw w1 ob ∧ Kp (fun _ => False) w1 w',
      r.length, ⟨0, _, _, by omega, by omega, rfl, hsl2, fun b hb => by cases hb; exact Nat.le_refl _, hk2⟩, ?_⟩
    rintro m l w3 ⟨i, t6, ob, hi, rfl, rfl, hsl3, hob3, hk3⟩
    rw [s58_p7_Fe]
    unfold s58_p6
    try simp only [e_fd, e_nck, e_pkt, e_pkf, e_gdtt, e_gdtf, e_gdft, e_gdff, e_ift, e_iff, e_not, e_ln, e_lnT, e_cp, e_cvi, e_ex20, e_ex21, e_ex30, e_ex31, e_ex32, e_add, e_sub, e_mul, e_quo, e_rem, e_and, e_or, e_xor, e_shl, e_shr, e_eql, e_neq, e_lss, e_leq, e_gtr, e_geq, e_beq, e_bne, e_peq1, e_peq2, e_pne1, e_pne2, e_zeq1, e_zeq2, e_zne1, e_zne2, e_feq1, e_fne1, e_feq2, e_fne2, e_seq, e_sne, e_ta1, e_ta2, Nat.zero_add, Nat.add_zero, Bool.not_true, Bool.not_false]
    by_cases hlt : i < r.length
    · have hlt' : (i : Int) < (r.length : Int) := by omega
      simp only [hlt', decide_true, e_fd, e_nck, e_pkt, e_pkf, e_gdtt, e_gdtf, e_gdft, e_gdff, e_ift, e_iff, e_not, e_ln, e_lnT, e_cp, e_cvi, e_ex20, e_ex21, e_ex30, e_ex31, e_ex32, e_add, e_sub, e_mul, e_quo, e_rem, e_and, e_or, e_xor, e_shl, e_shr, e_eql, e_neq, e_lss, e_leq, e_gtr, e_geq, e_beq, e_bne, e_peq1, e_peq2, e_pne1, e_pne2, e_zeq1, e_zeq2, e_zne1, e_zne2, e_feq1, e_fne1, e_feq2, e_fne2, e_seq, e_sne, e_ta1, e_ta2, Nat.zero_add, Nat.add_zero, Bool.not_true, Bool.not_false]
      unfold s58_p5
      refine (hsl1.kp' hk3).ix i1_len hlt fun b l hb hr hget hle _ => ?_
      refine ld1_r hr (v := I r[i]) ?_ ?_
      · have := hget 0 (by omega)
        rw [Nat.add_zero] at this
        rw [this]; rfl
      have hsi := hsc r[i] (List.getElem_mem hlt)
      have hsi' := hsi
      unfold isSc at hsi'
      refine spell16_ok hsi'.1 (by omega) fun w4 t26 b4 hsl4 hk4 hb4 => ?_
      refine hsl4.ln ?_
      unfold s58_p4
      have hul := units_len (r.take i)
      have hrt : (r.take i).length = i := by rw [List.length_take]; omega
      have hsl := sp16_len r[i]
      refine ⟨fun m l w' => ∃ (j : Nat) (t6 : Value) (ob : Option Nat), j ≤ (sp16 r[i]).length ∧ m = (sp16 r[i]).length - j ∧ l = [t6, t14, I r.length, I i, t26, I (sp16 r[i]).length, I j] ∧ Sl u1 1 w' 5 ob t6 (le2 (units (r.take i) ++ (sp16 r[i]).take j)) ∧ Nw w1 ob ∧ Kp (fun _ => False) w1 w' ∧ Sl i1 1 w' 3 (some b4) t26 (sp16 r[i]),
        (sp16 r[i]).length, ⟨0, t6, ob, by omega, by omega, rfl, ?_, hob3, hk3.trans hk4, hsl4⟩, ?_⟩
      · simpa using hsl3.kp' hk4
      rintro m l w5 ⟨j, t6, ob, hj, rfl, rfl, hsl5, hob5, hk5, hu5⟩
      rw [s58_p4_Fe]
      unfold s58_p3
      simp only [e_lss]
      by_cases hjl : j < (sp16 r[i]).length
      · have hjl' : (j : Int) < ((sp16 r[i]).length : Int) := by omega
        simp only [hjl', decide_true, e_ift]
        refine hu5.ix i1_len hjl fun b l hb hr hget hle _ => ?_
        refine ld1_r hr (v := I (sp16 r[i])[j]) ?_ ?_
        · have := hget 0 (by omega)
          rw [Nat.add_zero] at this
          rw [this]; rfl
        have hub := sp16_by hsi (sp16 r[i])[j] (List.getElem_mem hjl)
        refine unit_app hsl5 hub (by rw [List.length_append, List.length_take]; omega) fun w6 t' ob' hsl6 hk6 ho6 => ?_
        try simp only [e_fd, e_nck, e_pkt, e_pkf, e_gdtt, e_gdtf, e_gdft, e_gdff, e_ift, e_iff, e_not, e_ln, e_lnT, e_cp, e_cvi, e_ex20, e_ex21, e_ex30, e_ex31, e_ex32, e_add, e_sub, e_mul, e_quo, e_rem, e_and, e_or, e_xor, e_shl, e_shr, e_eql, e_neq, e_lss, e_leq, e_gtr, e_geq, e_beq, e_bne, e_peq1, e_peq2, e_pne1, e_pne2, e_zeq1, e_zeq2, e_zne1, e_zne2, e_feq1, e_fne1, e_feq2, e_fne2, e_seq, e_sne, e_ta1, e_ta2, Nat.zero_add, Nat.add_zero, Bool.not_true, Bool.not_false]
        rw [wrap64_id (by omega) (by omega)]
        refine ⟨(sp16 r[i]).length - (j + 1), by omega, j + 1, t', ob', by omega, rfl, by simp, ?_, hob5.step hk5 ho6, hob5.kp hk5 hk6, ?_⟩
        · rw [List.append_assoc] at hsl6
          rw [List.take_succ_eq_append_getElem hjl]; exact hsl6
        · refine hu5.kp hk6 fun b hb q => ?_
          cases hb
          obtain ⟨l5, r5⟩ := hsl5.row q
          obtain ⟨l4, r4⟩ := hu5.row rfl
          exact row_ne r5 r4 (by decide) rfl
      · have hjl' : ¬ (j : Int) < ((sp16 r[i]).length : Int) := by omega
        simp only [hjl', decide_false, e_fd, e_nck, e_pkt, e_pkf, e_gdtt, e_gdtf, e_gdft, e_gdff, e_ift, e_iff, e_not, e_ln, e_lnT, e_cp, e_cvi, e_ex20, e_ex21, e_ex30, e_ex31, e_ex32, e_add, e_sub, e_mul, e_quo, e_rem, e_and, e_or, e_xor, e_shl, e_shr, e_eql, e_neq, e_lss, e_leq, e_gtr, e_geq, e_beq, e_bne, e_peq1, e_peq2, e_pne1, e_pne2, e_zeq1, e_zeq2, e_zne1, e_zne2, e_feq1, e_fne1, e_feq2, e_fne2, e_seq, e_sne, e_ta1, e_ta2, Nat.zero_add, Nat.add_zero, Bool.not_true, Bool.not_false]
        unfold s58_p2
        try simp only [e_fd, e_nck, e_pkt, e_pkf, e_gdtt, e_gdtf, e_gdft, e_gdff, e_ift, e_iff, e_not, e_ln, e_lnT, e_cp, e_cvi, e_ex20, e_ex21, e_ex30, e_ex31, e_ex32, e_add, e_sub, e_mul, e_quo, e_rem, e_and, e_or, e_xor, e_shl, e_shr, e_eql, e_neq, e_lss, e_leq, e_gtr, e_geq, e_beq, e_bne, e_peq1, e_peq2, e_pne1, e_pne2, e_zeq1, e_zeq2, e_zne1, e_zne2, e_feq1, e_fne1, e_feq2, e_fne2, e_seq, e_sne, e_ta1, e_ta2, Nat.zero_add, Nat.add_zero, Bool.not_true, Bool.not_false]
        rw [wrap64_id (by omega) (by omega)]
        refine ⟨r.length - (i + 1), by omega, i + 1, t6, ob, by omega, rfl, by simp, ?_, hob5, hk5⟩
        rw [show (sp16 r[i]).take j = sp16 r[i] from List.take_of_length_le (by omega)] at hsl5
        rw [List.take_succ_eq_append_getElem hlt, units_app]
        exact hsl5
    · have hlt' : ¬ (i : Int) < (r.length : Int) := by omega
      simp only [hlt', decide_false, e_fd, e_nck, e_pkt, e_pkf, e_gdtt, e_gdtf, e_gdft, e_gdff, e_ift, e_iff, e_not, e_ln, e_lnT, e_cp, e_cvi, e_ex20, e_ex21, e_ex30, e_ex31, e_ex32, e_add, e_sub, e_mul, e_quo, e_rem, e_and, e_or, e_xor, e_shl, e_shr, e_eql, e_neq, e_lss, e_leq, e_gtr, e_geq, e_beq, e_bne, e_peq1, e_peq2, e_pne1, e_pne2, e_zeq1, e_zeq2, e_zne1, e_zne2, e_feq1, e_fne1, e_feq2, e_fne2, e_seq, e_sne, e_ta1, e_ta2, Nat.zero_add, Nat.add_zero, Bool.not_true, Bool.not_false]
      unfold s58_p1
      rw [List.take_of_length_le (by omega)] at hsl3
      exact hK2 w3 t6 r ob hd hsl3 (fun b hb => Nat.le_trans hk1.size (hob3 b hb)) (hk1.trans hk3)
end Go.Proofs.Qxb6500898a
