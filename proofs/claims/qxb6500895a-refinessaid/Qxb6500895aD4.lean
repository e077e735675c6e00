import Derived.Test.Qxb6500895aD3
namespace Go.Proofs.Qxb6500895a
open Go.Sh Go.RowKit
set_option linter.unusedVariables false
set_option linter.unusedSimpArgs false

def lnZ (p : Nat × Nat) : List Value := [I 0, .slice none 0 0]
theorem lnZ_len (x : Nat × Nat) : (lnZ x).length = 2 := rfl
/-- the index with the first i lines taken out -/
def idxz (ls : List (Nat × Nat)) (i : Nat) : List Value := (List.range 12).map (fun k => Value.int .i32 ((if k ∈ (ls.take i).map (·.1) then 0 else pos ls k : Nat) : Int))
theorem idxz_0 (ls : List (Nat × Nat)) : idxz ls 0 = idxs ls := by
  unfold idxz idxs
  simp
theorem idxz_succ {ls : List (Nat × Nat)} {i : Nat} (hi : i < ls.length) : (idxz ls i).set (ls[i]).1 (.int .i32 0) = idxz ls (i + 1) := by
  apply List.ext_getElem?
  intro k
  unfold idxz
  rw [List.getElem?_set, List.getElem?_map, List.getElem?_map]
  by_cases hk : k < 12
  · rw [List.getElem?_range hk]
    simp only [Option.map_some, List.length_map, List.length_range]
    by_cases e : (ls[i]).1 = k
    · rw [if_pos e, if_pos (by omega), if_pos (by rw [List.take_succ_eq_append_getElem hi, List.map_append]; simp [e])]
      rfl
    · rw [if_neg e]
      have : (k ∈ (ls.take (i + 1)).map (·.1)) ↔ (k ∈ (ls.take i).map (·.1)) := by
        rw [List.take_succ_eq_append_getElem hi, List.map_append, List.mem_append]
        simp only [List.map_cons, List.map_nil, List.mem_singleton]
        constructor
        · rintro (q | q)
          · exact q
          · exact absurd q.symm e
        · exact .inl
      by_cases q : k ∈ (ls.take i).map (·.1)
      · rw [if_pos q, if_pos (this.2 q)]
      · rw [if_neg q, if_neg (fun r => q (this.1 r))]
  · rw [List.getElem?_eq_none (by simp; omega)]
    simp only [Option.map_none, List.length_map, List.length_range]
    split
    · rw [if_neg (by omega)]
    · rfl
theorem idxz_all (ls : List (Nat × Nat)) : idxz ls ls.length = idxs [] := by
  apply List.ext_getElem?
  intro k
  unfold idxz idxs
  rw [List.getElem?_map, List.getElem?_map]
  by_cases hk : k < 12
  · rw [List.getElem?_range hk]
    simp only [Option.map_some, List.take_length]
    by_cases q : k ∈ ls.map (·.1)
    · rw [if_pos q]; rfl
    · rw [if_neg q, pos_zero (fun p hp e => q (by rw [← e]; exact List.mem_map_of_mem hp))]; rfl
  · rw [List.getElem?_eq_none (by simp; omega)]
    rfl

/-- drop in its course -/
structure Dr (w0 w : World) (d : Nat) (m : Mem) (s : DS) (i : Nat) (sv : Value) (sob : Option Nat) (lb cap : Nat) (junk : List Value) : Prop where
  disk : Row w d 91 (dcells { m with sv := sv } s)
  idx : Row w m.ib 21 (idxz m.ls i)
  lines : Row w lb 100 (rows lnZ (m.ls.take i) ++ rows lnV (m.ls.drop i) ++ junk)
  spare : Sl spV 1 w 29 sob sv (m.sp ++ (m.ls.take i).map (·.2))
  kp : Kp (fun b => b = d ∨ b = m.ib ∨ b = lb ∨ m.sob = some b) w0 w
  ob : sob = m.sob ∨ ∃ b, sob = some b ∧ w0.heap.size ≤ b

theorem drop_ok {w : World} {d : Nat} {m : Mem} {s : DS} {K : Value → World → Prop} (h : Dk w d m s)
    (hK : ∀ w' m', Dk w' d m' { s with fr := fun _ => none } → Stp w w' d m m' → K (.tuple #[]) w') : cl Try.prog 56 #[.pointer (some ⟨d, 3, none⟩)] K w := by
  have htot := h.tot
  apply c56
  unfold s56_p9
  simp only [e_fd, e_nck, e_pkt, e_pkf, e_gdtt, e_gdtf, e_gdft, e_gdff, e_ift, e_iff, e_not, e_ln, e_lnT, e_cp, e_cvi, e_ex20, e_ex21, e_ex30, e_ex31, e_ex32, e_add, e_sub, e_mul, e_quo, e_rem, e_and, e_or, e_xor, e_shl, e_shr, e_eql, e_neq, e_lss, e_leq, e_gtr, e_geq, e_beq, e_bne, e_peq1, e_peq2, e_pne1, e_pne2, e_zeq1, e_zeq2, e_zne1, e_zne2, e_feq1, e_fne1, e_feq2, e_fne2, e_seq, e_sne, e_ta1, e_ta2, Nat.zero_add, Nat.add_zero, Bool.not_true, Bool.not_false]
  refine ld1_r h.disk rfl ?_
  refine h.lines.ln ?_
  unfold s56_p8
  by_cases hl0 : m.ls.length = 0
  · -- no lines
    have hls : m.ls = [] := List.eq_nil_of_length_eq_zero hl0
    refine ⟨fun n l w' => l = [.pointer (some ⟨d, 3, none⟩), I m.ls.length, I 0] ∧ w' = w, 0, ⟨rfl, rfl⟩, ?_⟩
    rintro n l w' ⟨rfl, rfl⟩
    rw [s56_p8_Fe]
    unfold s56_p7
    simp only [e_fd, e_nck, e_pkt, e_pkf, e_gdtt, e_gdtf, e_gdft, e_gdff, e_ift, e_iff, e_not, e_ln, e_lnT, e_cp, e_cvi, e_ex20, e_ex21, e_ex30, e_ex31, e_ex32, e_add, e_sub, e_mul, e_quo, e_rem, e_and, e_or, e_xor, e_shl, e_shr, e_eql, e_neq, e_lss, e_leq, e_gtr, e_geq, e_beq, e_bne, e_peq1, e_peq2, e_pne1, e_pne2, e_zeq1, e_zeq2, e_zne1, e_zne2, e_feq1, e_fne1, e_feq2, e_fne2, e_seq, e_sne, e_ta1, e_ta2, Nat.zero_add, Nat.add_zero, Bool.not_true, Bool.not_false]
    have e : ¬ (0 : Int) < ((m.ls.length : Nat) : Int) := by omega
    simp only [e, decide_false, e_fd, e_nck, e_pkt, e_pkf, e_gdtt, e_gdtf, e_gdft, e_gdff, e_ift, e_iff, e_not, e_ln, e_lnT, e_cp, e_cvi, e_ex20, e_ex21, e_ex30, e_ex31, e_ex32, e_add, e_sub, e_mul, e_quo, e_rem, e_and, e_or, e_xor, e_shl, e_shr, e_eql, e_neq, e_lss, e_leq, e_gtr, e_geq, e_beq, e_bne, e_peq1, e_peq2, e_pne1, e_pne2, e_zeq1, e_zeq2, e_zne1, e_zne2, e_feq1, e_fne1, e_feq2, e_fne2, e_seq, e_sne, e_ta1, e_ta2, Nat.zero_add, Nat.add_zero, Bool.not_true, Bool.not_false]
    unfold s56_p1
    simp only [e_fd, e_nck, e_pkt, e_pkf, e_gdtt, e_gdtf, e_gdft, e_gdff, e_ift, e_iff, e_not, e_ln, e_lnT, e_cp, e_cvi, e_ex20, e_ex21, e_ex30, e_ex31, e_ex32, e_add, e_sub, e_mul, e_quo, e_rem, e_and, e_or, e_xor, e_shl, e_shr, e_eql, e_neq, e_lss, e_leq, e_gtr, e_geq, e_beq, e_bne, e_peq1, e_peq2, e_pne1, e_pne2, e_zeq1, e_zeq2, e_zne1, e_zne2, e_feq1, e_fne1, e_feq2, e_fne2, e_seq, e_sne, e_ta1, e_ta2, Nat.zero_add, Nat.add_zero, Bool.not_true, Bool.not_false]
    refine ld1_r h.disk rfl ?_
    have fin : ∀ lv', scal lv' = true → (∀ w1, Kp (fun b => b = d) w' w1 → Sl lnV 2 w1 100 m.lob lv' []) → st1 (.pointer (some ⟨d, 3 + 2, none⟩)) lv' (fun w => K (.tuple #[]) w) w' := by
      intro lv' hsc hsl
      refine st1_r h.disk (show 5 < 17 by decide) hsc fun w1 r1 hk1 hz1 => ?_
      have h1 : Dk w1 d { m with lv := lv' } { s with fr := fun _ => none } := by
        have ne : ∀ {b t l}, Row w' b t l → t ≠ 91 → ¬ b = d := fun hr ht e => row_ne hr h.disk ht e
        obtain ⟨L, hL1, hL2, hL3⟩ := h.plat
        refine ⟨r1, ⟨L, hL1, hk1.row hL2 (ne hL2 (by decide)), hL3⟩, hk1.row h.idx (ne h.idx (by decide)), by rw [hls]; exact hsl w1 hk1, h.lnd, ?_, fun _ _ => rfl, h.spare.kp hk1 ?_, ?_, h.kp.kp hk1 ?_, h.nd, h.fsec, fun _ _ q => (by cases q), h.klen, h.left0, h.left1, h.tot⟩
        · intro p hp; have hp' : p ∈ m.ls := hp; rw [hls] at hp'; simp at hp'
        · intro b hb; obtain ⟨l, hr⟩ := h.spare.row hb; exact ne hr (by decide)
        · intro b hb
          obtain ⟨x, q1, q2⟩ := h.spd b hb
          exact ⟨x, q1, hk1.row q2 (ne q2 (by decide))⟩
        · intro b hb; obtain ⟨l, hr⟩ := h.kp.row hb; exact ne hr (by decide)
      exact hK w1 _ h1 ⟨hk1.mono fun b _ q => .inl q, fun b q => .inl q⟩
    have hsl := h.lines
    have ned : ∀ {b t l}, Row w' b t l → t ≠ 91 → ¬ b = d := fun hr ht e => row_ne hr h.disk ht e
    rcases hlob : m.lob with _ | lb
    · rw [hlob] at hsl
      obtain ⟨hv, _⟩ := hsl
      rw [hv]
      refine ⟨⟨by decide, by decide, by decide⟩, ?_⟩
      exact fin _ rfl fun w1 hk1 => by rw [hlob]; exact ⟨rfl, rfl⟩
    · rw [hlob] at hsl
      obtain ⟨cap, junk, hv, h2, h3, h4⟩ := hsl
      rw [hv, hl0]
      refine ⟨⟨by decide, by decide, by omega⟩, ?_⟩
      have e1 : (if cap = ((0 : Nat) : Int).toNat then (some (⟨lb, 0, none⟩ : Addr)) else (some (⟨lb, 0, none⟩ : Addr)).map (·.add (((0 : Nat) : Int).toNat * 2))) = some ⟨lb, 0, none⟩ := by
        split
        · rfl
        · show some ((⟨lb, 0, none⟩ : Addr).add (0 * 2)) = _; rw [add_mk]
      rw [e1]
      refine fin _ rfl fun w1 hk1 => ?_
      rw [hlob]
      exact ⟨cap, junk, rfl, Nat.zero_le _, by rw [h3, hl0]; rfl, hk1.row (by rw [hls] at h4; exact h4) (ned h4 (by decide))⟩
  · obtain ⟨lb, cap, junk, hlob, hlv, hcap, hjl, hrow⟩ := Sl.ne_none h.lines (by omega)
    have hdlb : ¬ d = lb := fun e => row_ne hrow h.disk (by decide) e.symm
    refine ⟨fun n l w' => ∃ (i : Nat) (sv : Value) (sob : Option Nat), i ≤ m.ls.length ∧ n = m.ls.length - i ∧ l = [.pointer (some ⟨d, 3, none⟩), I m.ls.length, I i] ∧ Dr w w' d m s i sv sob lb cap junk,
      m.ls.length, ⟨0, m.sv, m.sob, by omega, by omega, rfl, ⟨h.disk, by rw [idxz_0]; exact h.idx, by simpa [rows] using hrow, by simpa using h.spare, Kp.refl _ _, .inl rfl⟩⟩, ?_⟩
    rintro n l w1 ⟨i, sv, sob, hi, rfl, rfl, hr⟩
    rw [s56_p8_Fe]
    unfold s56_p7
    simp only [e_fd, e_nck, e_pkt, e_pkf, e_gdtt, e_gdtf, e_gdft, e_gdff, e_ift, e_iff, e_not, e_ln, e_lnT, e_cp, e_cvi, e_ex20, e_ex21, e_ex30, e_ex31, e_ex32, e_add, e_sub, e_mul, e_quo, e_rem, e_and, e_or, e_xor, e_shl, e_shr, e_eql, e_neq, e_lss, e_leq, e_gtr, e_geq, e_beq, e_bne, e_peq1, e_peq2, e_pne1, e_pne2, e_zeq1, e_zeq2, e_zne1, e_zne2, e_feq1, e_fne1, e_feq2, e_fne2, e_seq, e_sne, e_ta1, e_ta2, Nat.zero_add, Nat.add_zero, Bool.not_true, Bool.not_false]
    have hrz : (rows lnZ (m.ls.take i)).length = i * 2 := by rw [rows_length lnZ_len, List.length_take]; congr 1; omega
    by_cases hlt : i < m.ls.length
    · have hlt' : (i : Int) < ((m.ls.length : Nat) : Int) := by omega
      simp only [hlt', decide_true, e_fd, e_nck, e_pkt, e_pkf, e_gdtt, e_gdtf, e_gdft, e_gdff, e_ift, e_iff, e_not, e_ln, e_lnT, e_cp, e_cvi, e_ex20, e_ex21, e_ex30, e_ex31, e_ex32, e_add, e_sub, e_mul, e_quo, e_rem, e_and, e_or, e_xor, e_shl, e_shr, e_eql, e_neq, e_lss, e_leq, e_gtr, e_geq, e_beq, e_bne, e_peq1, e_peq2, e_pne1, e_pne2, e_zeq1, e_zeq2, e_zne1, e_zne2, e_feq1, e_fne1, e_feq2, e_fne2, e_seq, e_sne, e_ta1, e_ta2, Nat.zero_add, Nat.add_zero, Bool.not_true, Bool.not_false]
      unfold s56_p6 s56_p5 s56_p5_d
      simp only [e_fd, e_nck, e_pkt, e_pkf, e_gdtt, e_gdtf, e_gdft, e_gdff, e_ift, e_iff, e_not, e_ln, e_lnT, e_cp, e_cvi, e_ex20, e_ex21, e_ex30, e_ex31, e_ex32, e_add, e_sub, e_mul, e_quo, e_rem, e_and, e_or, e_xor, e_shl, e_shr, e_eql, e_neq, e_lss, e_leq, e_gtr, e_geq, e_beq, e_bne, e_peq1, e_peq2, e_pne1, e_pne2, e_zeq1, e_zeq2, e_zne1, e_zne2, e_feq1, e_fne1, e_feq2, e_fne2, e_seq, e_sne, e_ta1, e_ta2, Nat.zero_add, Nat.add_zero, Bool.not_true, Bool.not_false]
      obtain ⟨hs12, x, hx1, hx2⟩ := h.lin m.ls[i] (List.getElem_mem hlt)
      have hdr : rows lnV (m.ls.drop i) = lnV m.ls[i] ++ rows lnV (m.ls.drop (i + 1)) := by rw [List.drop_eq_getElem_cons hlt, rows_cons]
      have hat0 : (rows lnZ (m.ls.take i) ++ rows lnV (m.ls.drop i) ++ junk)[i * 2]? = some (I (m.ls[i]).1) := by
        rw [List.append_assoc, List.getElem?_append_right (by omega), hrz, Nat.sub_self, hdr]; rfl
      have hat1 : (rows lnZ (m.ls.take i) ++ rows lnV (m.ls.drop i) ++ junk)[i * 2 + 1]? = some (buf (m.ls[i]).2) := by
        rw [List.append_assoc, List.getElem?_append_right (by omega), hrz, Nat.add_sub_cancel_left, hdr]; rfl
      refine ld1_r hr.disk.drw rfl ?_
      refine ld1_r hr.disk.drw (v := m.lv) rfl ?_
      rw [hlv]
      refine ⟨⟨by omega, by omega⟩, ?_⟩
      have ei : ((i : Int)).toNat = i := by omega
      rw [ei, add_mk, Nat.zero_add]
      simp only [e_fd, e_nck, e_pkt, e_pkf, e_gdtt, e_gdtf, e_gdft, e_gdff, e_ift, e_iff, e_not, e_ln, e_lnT, e_cp, e_cvi, e_ex20, e_ex21, e_ex30, e_ex31, e_ex32, e_add, e_sub, e_mul, e_quo, e_rem, e_and, e_or, e_xor, e_shl, e_shr, e_eql, e_neq, e_lss, e_leq, e_gtr, e_geq, e_beq, e_bne, e_peq1, e_peq2, e_pne1, e_pne2, e_zeq1, e_zeq2, e_zne1, e_zne2, e_feq1, e_fne1, e_feq2, e_fne2, e_seq, e_sne, e_ta1, e_ta2, Nat.zero_add, Nat.add_zero, Bool.not_true, Bool.not_false]
      refine ld1_r hr.lines.drw hat0 ?_
      refine ⟨⟨by omega, by omega⟩, ?_⟩
      have es : (((m.ls[i]).1 : Int)).toNat = (m.ls[i]).1 := by omega
      rw [es, add_mk, Nat.zero_add, Nat.mul_one]
      refine st1_r hr.idx.drw (by simp [idxz]; omega) rfl fun w2 r2 hk2 hz2 => ?_
      rw [idxz_succ hlt] at r2
      have hk12 : Kp (fun b => b = m.ib) w1 w2 := hk2.undrw
      have nei : ∀ {b t l}, Row w1 b t l → t ≠ 21 → ¬ b = m.ib := fun hr' ht e => row_ne hr' hr.idx ht e
      have d2 := hk12.row hr.disk (nei hr.disk (by decide))
      have l2 := hk12.row hr.lines (nei hr.lines (by decide))
      have s2 : Sl spV 1 w2 29 sob sv (m.sp ++ (m.ls.take i).map (·.2)) := hr.spare.kp hk12 (fun b hb => by obtain ⟨l, hr'⟩ := hr.spare.row hb; exact nei hr' (by decide))
      unfold s56_p4 s56_p4_d
      simp only [e_fd, e_nck, e_pkt, e_pkf, e_gdtt, e_gdtf, e_gdft, e_gdff, e_ift, e_iff, e_not, e_ln, e_lnT, e_cp, e_cvi, e_ex20, e_ex21, e_ex30, e_ex31, e_ex32, e_add, e_sub, e_mul, e_quo, e_rem, e_and, e_or, e_xor, e_shl, e_shr, e_eql, e_neq, e_lss, e_leq, e_gtr, e_geq, e_beq, e_bne, e_peq1, e_peq2, e_pne1, e_pne2, e_zeq1, e_zeq2, e_zne1, e_zne2, e_feq1, e_fne1, e_feq2, e_fne2, e_seq, e_sne, e_ta1, e_ta2, Nat.zero_add, Nat.add_zero, Bool.not_true, Bool.not_false]
      refine ld1_r d2.drw rfl ?_
      refine ld1_r d2.drw (v := m.lv) rfl ?_
      rw [hlv]
      refine ⟨⟨by omega, by omega⟩, ?_⟩
      rw [ei, add_mk, Nat.zero_add]
      simp only [e_fd, e_nck, e_pkt, e_pkf, e_gdtt, e_gdtf, e_gdft, e_gdff, e_ift, e_iff, e_not, e_ln, e_lnT, e_cp, e_cvi, e_ex20, e_ex21, e_ex30, e_ex31, e_ex32, e_add, e_sub, e_mul, e_quo, e_rem, e_and, e_or, e_xor, e_shl, e_shr, e_eql, e_neq, e_lss, e_leq, e_gtr, e_geq, e_beq, e_bne, e_peq1, e_peq2, e_pne1, e_pne2, e_zeq1, e_zeq2, e_zne1, e_zne2, e_feq1, e_fne1, e_feq2, e_fne2, e_seq, e_sne, e_ta1, e_ta2, Nat.zero_add, Nat.add_zero, Bool.not_true, Bool.not_false]
      refine ld1_r l2.drw hat1 ?_
      have hsl : ((m.sp ++ (m.ls.take i).map (·.2))).length ≤ 12 := by rw [List.length_append, List.length_map, List.length_take]; omega
      refine bsq_r (l := spV (m.ls[i]).2) rfl fun w3 r3 hk3 hz3 => ⟨hk3.below', ?_⟩
      have hk3' := hk3.undrw
      have sn : Sl spV 1 w3 29 (some (drw w2).heap.size) (.slice (some ⟨(drw w2).heap.size, 0, none⟩) 1 1) [(m.ls[i]).2] := ⟨1, [], rfl, Nat.le_refl _, rfl, r3⟩
      refine (s2.kp' hk3').app2 spV_len rfl (fun _ _ => rfl) sn (by simp only [List.length_singleton]; omega) (by simp only [List.length_singleton]; omega) fun w4 sv' sob' s4 hk4 ho4 => ?_
      have d3 := hk3'.row' d2
      have l3 := hk3'.row' l2
      have i3 := hk3'.row' r2
      have nes : ∀ {b t l}, Row w3 b t l → t ≠ 29 → ¬ sob = some b := by
        intro b t l hr' ht q
        obtain ⟨l', hr''⟩ := (s2.kp' hk3').row q
        exact row_ne hr' hr'' ht rfl
      have d4 := hk4.row d3 (nes d3 (by decide))
      have l4 := hk4.row l3 (nes l3 (by decide))
      have i4 := hk4.row i3 (nes i3 (by decide))
      refine st1_r d4 (show 6 < 17 by decide) (sl_scal s4) fun w5 r5 hk5 hz5 => ?_
      have l5 := hk5.row l4 (fun e => row_ne l4 d4 (by decide) e)
      have i5 := hk5.row i4 (fun e => row_ne i4 d4 (by decide) e)
      have s5 : Sl spV 1 w5 29 sob' sv' (m.sp ++ (m.ls.take i).map (·.2) ++ [(m.ls[i]).2]) := s4.kp hk5 (fun b hb e => by obtain ⟨l, hr'⟩ := s4.row hb; exact row_ne hr' d4 (by decide) e)
      unfold s56_p3
      simp only [e_fd, e_nck, e_pkt, e_pkf, e_gdtt, e_gdtf, e_gdft, e_gdff, e_ift, e_iff, e_not, e_ln, e_lnT, e_cp, e_cvi, e_ex20, e_ex21, e_ex30, e_ex31, e_ex32, e_add, e_sub, e_mul, e_quo, e_rem, e_and, e_or, e_xor, e_shl, e_shr, e_eql, e_neq, e_lss, e_leq, e_gtr, e_geq, e_beq, e_bne, e_peq1, e_peq2, e_pne1, e_pne2, e_zeq1, e_zeq2, e_zne1, e_zne2, e_feq1, e_fne1, e_feq2, e_fne2, e_seq, e_sne, e_ta1, e_ta2, Nat.zero_add, Nat.add_zero, Bool.not_true, Bool.not_false]
      refine ld1_r r5 (v := m.lv) rfl ?_
      refine bdq_r rfl ?_
      rw [hlv]
      refine ⟨⟨by omega, by omega⟩, ?_⟩
      rw [ei, add_mk, Nat.zero_add]
      refine stn_r l5 rfl (by rw [List.length_append, List.length_append, hrz, hdr, List.length_append, lnV_len]; omega) rfl fun w6 r6 hk6 hz6 => ?_
      have hnew : List.take (i * 2) (rows lnZ (m.ls.take i) ++ rows lnV (m.ls.drop i) ++ junk) ++ ([I 0, .slice none 0 0] ++ List.drop (i * 2 + 2) (rows lnZ (m.ls.take i) ++ rows lnV (m.ls.drop i) ++ junk)) = rows lnZ (m.ls.take (i + 1)) ++ rows lnV (m.ls.drop (i + 1)) ++ junk := by
        rw [hdr, List.take_succ_eq_append_getElem hlt, rows_one, List.append_assoc, List.append_assoc, List.take_append_of_le_length (by omega), List.take_of_length_le (by omega), List.drop_append, List.drop_of_length_le (by omega), hrz, Nat.add_sub_cancel_left, List.nil_append]
        simp [lnV, lnZ]
      rw [hnew] at r6
      unfold s56_p2
      simp only [e_fd, e_nck, e_pkt, e_pkf, e_gdtt, e_gdtf, e_gdft, e_gdff, e_ift, e_iff, e_not, e_ln, e_lnT, e_cp, e_cvi, e_ex20, e_ex21, e_ex30, e_ex31, e_ex32, e_add, e_sub, e_mul, e_quo, e_rem, e_and, e_or, e_xor, e_shl, e_shr, e_eql, e_neq, e_lss, e_leq, e_gtr, e_geq, e_beq, e_bne, e_peq1, e_peq2, e_pne1, e_pne2, e_zeq1, e_zeq2, e_zne1, e_zne2, e_feq1, e_fne1, e_feq2, e_fne2, e_seq, e_sne, e_ta1, e_ta2, Nat.zero_add, Nat.add_zero, Bool.not_true, Bool.not_false]
      rw [wrap64_id (by omega) (by omega)]
      have hdl : ∀ {b t l}, Row w5 b t l → t ≠ 100 → ¬ b = lb := fun hr' ht e => row_ne hr' l5 ht e
      refine ⟨m.ls.length - (i + 1), by omega, i + 1, sv', sob', by omega, rfl, by simp, ⟨hk6.row r5 (hdl r5 (by decide)), hk6.row i5 (hdl i5 (by decide)), r6, ?_, ?_, ?_⟩⟩
      · rw [List.take_succ_eq_append_getElem hlt, List.map_append, ← List.append_assoc]
        exact s5.kp hk6 (fun b hb => by obtain ⟨l, hr'⟩ := s5.row hb; exact hdl hr' (by decide))
      · have hw02 : Kp (fun b => b = d ∨ b = m.ib ∨ b = lb ∨ m.sob = some b) w w2 := hr.kp.trans (hk12.mono fun _ _ q => .inr (.inl q))
        refine (((hw02.trans hk3'.none).then hk4 ?_).trans (hk5.mono fun _ _ q => .inl q)).trans (hk6.mono fun _ _ q => .inr (.inr (.inl q)))
        intro c hc q
        rcases hr.ob with e | ⟨b, e, hb⟩
        · exact .inr (.inr (.inr (by rw [← e]; exact q)))
        · have q' : sob = some c := q
          rw [e] at q'; cases q'; omega
      · have hsz := hr.kp.size
        have hsz2 := hk12.size
        have hsz3 := hk3'.size
        rcases ho4 with e | ⟨b, e, hb⟩
        · rw [e]; exact hr.ob
        · exact .inr ⟨b, e, by omega⟩
    · have hlt' : ¬ (i : Int) < ((m.ls.length : Nat) : Int) := by omega
      have ei : i = m.ls.length := by omega
      subst ei
      simp only [hlt', decide_false, e_fd, e_nck, e_pkt, e_pkf, e_gdtt, e_gdtf, e_gdft, e_gdff, e_ift, e_iff, e_not, e_ln, e_lnT, e_cp, e_cvi, e_ex20, e_ex21, e_ex30, e_ex31, e_ex32, e_add, e_sub, e_mul, e_quo, e_rem, e_and, e_or, e_xor, e_shl, e_shr, e_eql, e_neq, e_lss, e_leq, e_gtr, e_geq, e_beq, e_bne, e_peq1, e_peq2, e_pne1, e_pne2, e_zeq1, e_zeq2, e_zne1, e_zne2, e_feq1, e_fne1, e_feq2, e_fne2, e_seq, e_sne, e_ta1, e_ta2, Nat.zero_add, Nat.add_zero, Bool.not_true, Bool.not_false]
      unfold s56_p1
      simp only [e_fd, e_nck, e_pkt, e_pkf, e_gdtt, e_gdtf, e_gdft, e_gdff, e_ift, e_iff, e_not, e_ln, e_lnT, e_cp, e_cvi, e_ex20, e_ex21, e_ex30, e_ex31, e_ex32, e_add, e_sub, e_mul, e_quo, e_rem, e_and, e_or, e_xor, e_shl, e_shr, e_eql, e_neq, e_lss, e_leq, e_gtr, e_geq, e_beq, e_bne, e_peq1, e_peq2, e_pne1, e_pne2, e_zeq1, e_zeq2, e_zne1, e_zne2, e_feq1, e_fne1, e_feq2, e_fne2, e_seq, e_sne, e_ta1, e_ta2, Nat.zero_add, Nat.add_zero, Bool.not_true, Bool.not_false]
      refine ld1_r hr.disk (v := m.lv) rfl ?_
      rw [hlv]
      refine ⟨⟨by decide, by decide, by omega⟩, ?_⟩
      have e1 : (if cap = ((0 : Nat) : Int).toNat then (some (⟨lb, 0, none⟩ : Addr)) else (some (⟨lb, 0, none⟩ : Addr)).map (·.add (((0 : Nat) : Int).toNat * 2))) = some ⟨lb, 0, none⟩ := by
        split
        · rfl
        · show some ((⟨lb, 0, none⟩ : Addr).add (0 * 2)) = _; rw [add_mk]
      rw [e1]
      refine st1_r hr.disk (show 5 < 17 by decide) rfl fun w2 r2 hk2 hz2 => ?_
      have l1 := hr.lines
      rw [List.drop_length, List.take_length] at l1
      have i1' := hr.idx
      rw [idxz_all] at i1'
      have s1 := hr.spare
      rw [List.take_length] at s1
      have ned : ∀ {b t l}, Row w1 b t l → t ≠ 91 → ¬ b = d := fun hr' ht e => row_ne hr' hr.disk ht e
      have hk02 : Kp (fun b => b = d ∨ b = m.ib ∨ b = lb ∨ m.sob = some b) w w2 := hr.kp.trans (hk2.mono fun _ _ q => .inl q)
      have ne4 : ∀ {b t l}, Row w b t l → t ≠ 91 → t ≠ 21 → t ≠ 100 → t ≠ 29 → ¬ (b = d ∨ b = m.ib ∨ b = lb ∨ m.sob = some b) := by
        intro b t l hr' t1 t2 t3 t4 q
        rcases q with q | q | q | q
        · exact row_ne hr' h.disk t1 q
        · exact row_ne hr' h.idx t2 q
        · exact row_ne hr' hrow t3 q
        · obtain ⟨l', hr''⟩ := h.spare.row q; exact row_ne hr' hr'' t4 rfl
      obtain ⟨L, hL1, hL2, hL3⟩ := h.plat
      have hmp : (m.sp ++ m.ls.map (·.2)).Perm (m.ls.map (·.2) ++ m.sp) := List.perm_append_comm
      refine hK w2 { m with lv := .slice (some ⟨lb, 0, none⟩) 0 cap, sv := sv, sob := sob, ls := [], sp := m.sp ++ m.ls.map (·.2) } ⟨r2, ⟨L, hL1, hk02.row hL2 (ne4 hL2 (by decide) (by decide) (by decide) (by decide)), hL3⟩, hk2.row i1' (ned hr.idx (by decide)), ?_, List.nodup_nil, fun p hp => (by cases hp), fun _ _ => rfl, ?_, ?_, h.kp.kp hk02 ?_, ?_, h.fsec, fun _ _ q => (by cases q), h.klen, h.left0, h.left1, ?_⟩ ⟨?_, ?_⟩
      · show Sl lnV 2 w2 100 m.lob _ []
        rw [hlob]
        refine ⟨cap, rows lnZ m.ls ++ junk, rfl, Nat.zero_le _, ?_, ?_⟩
        · rw [List.length_append, rows_length lnZ_len, hjl, List.length_nil, Nat.sub_zero, ← Nat.add_mul]; congr 1; omega
        · have := hk2.row hr.lines (ned hr.lines (by decide))
          rw [List.drop_length, List.take_length] at this
          simpa [rows] using this
      · exact s1.kp hk2 (fun b hb => by obtain ⟨l, hr'⟩ := s1.row hb; exact ned hr' (by decide))
      · intro b hb
        rcases List.mem_append.1 hb with q | q
        · obtain ⟨x, q1, q2⟩ := h.spd b q
          exact ⟨x, q1, hk02.row q2 (ne4 q2 (by decide) (by decide) (by decide) (by decide))⟩
        · rw [List.mem_map] at q
          obtain ⟨p, hp, rfl⟩ := q
          obtain ⟨_, x, q2, q3⟩ := h.lin p hp
          exact ⟨x, (h.rsec _ _ q2).1, hk02.row q3 (ne4 q3 (by decide) (by decide) (by decide) (by decide))⟩
      · intro b hb
        obtain ⟨l, hr'⟩ := h.kp.row hb
        exact ne4 hr' (by decide) (by decide) (by decide) (by decide)
      · exact ((hmp.cons m.pb).nodup_iff).2 h.nd
      · show ([] : List (Nat × Nat)).length + (m.sp ++ m.ls.map (·.2)).length ≤ 12
        rw [List.length_append, List.length_map, List.length_nil]; omega
      · refine hk02.mono fun b _ q => ?_
        rcases q with q | q | q | q
        · exact .inl q
        · exact .inr (.inr (.inl q))
        · subst q; exact .inr (.inr (.inr (.inl hlob)))
        · exact .inr (.inr (.inr (.inr (.inl q))))
      · rintro b (q | q | q | q | q | q | q | q)
        · exact .inl (.inl q)
        · exact .inl (.inr (.inl q))
        · exact .inl (.inr (.inr (.inl q)))
        · exact .inl (.inr (.inr (.inr (.inl q))))
        · have q' : sob = some b := q
          rcases hr.ob with e | ⟨b', e, hb'⟩
          · exact .inl (.inr (.inr (.inr (.inr (.inl (by rw [← e]; exact q'))))))
          · rw [e] at q'; cases q'; exact .inr hb'
        · exact .inl (.inr (.inr (.inr (.inr (.inr (.inl q))))))
        · cases q
        · rcases List.mem_append.1 q with q | q
          · exact .inl (.inr (.inr (.inr (.inr (.inr (.inr (.inr q)))))))
          · exact .inl (.inr (.inr (.inr (.inr (.inr (.inr (.inl q)))))))
end Go.Proofs.Qxb6500895a
