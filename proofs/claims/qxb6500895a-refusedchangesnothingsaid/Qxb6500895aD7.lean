import Derived.Test.Qxb6500895aD6
namespace Go.Proofs.Qxb6500895a
open Go.Sh Go.RowKit
set_option linter.unusedVariables false
set_option linter.unusedSimpArgs false

def flS (s : DS) : Int × DS :=
  if s.off = true then (4, s)
  else if (burnS { s with fl := inc s.fl }).1 = true then (4, (burnS { s with fl := inc s.fl }).2)
  else (0, { (burnS { s with fl := inc s.fl }).2 with flu := nowS (burnS { s with fl := inc s.fl }).2, fr := fun _ => none })

/-- the platter after the first j lines -/
def fluJ (s : DS) (ls : List (Nat × Nat)) (i : Nat) : List Int := match s.fr i with
  | some x => if i ∈ ls.map (·.1) then x else s.flu i
  | none => s.flu i

section
variable {w : World} {d : Nat} {m : Mem} {s : DS} {K : Value → World → Prop}

theorem flush_loop (h : Dk w d m s) (hK : ∀ w' m', Dk w' d m' { s with flu := nowS s, fr := fun _ => none } → Stp w w' d m m' → K .nilIface w') : s32_p7 K (.pointer (some ⟨d, 0, none⟩)) m.lv (I m.ls.length) (I 0) w := by
  have hls := h.lsl
  unfold s32_p7
  refine ⟨fun n l w' => ∃ j : Nat, j ≤ m.ls.length ∧ n = m.ls.length - j ∧ l = [.pointer (some ⟨d, 0, none⟩), m.lv, I m.ls.length, I j] ∧ Dk w' d m { s with flu := fluJ s (m.ls.take j) } ∧ Kp (fun b => b = m.pb) w w',
    m.ls.length, ⟨0, by omega, by omega, rfl, ?_, Kp.refl _ _⟩, ?_⟩
  · have : fluJ s (m.ls.take 0) = s.flu := by
      funext i; unfold fluJ
      cases s.fr i with
      | none => rfl
      | some x => simp
    rw [this]; exact h
  rintro n l w1 ⟨j, hj, rfl, rfl, h1, hk1⟩
  rw [s32_p7_Fe]
  unfold s32_p6
  simp only [e_fd, e_nck, e_pkt, e_pkf, e_gdtt, e_gdtf, e_gdft, e_gdff, e_ift, e_iff, e_not, e_ln, e_lnT, e_cp, e_cvi, e_ex20, e_ex21, e_ex30, e_ex31, e_ex32, e_add, e_sub, e_mul, e_quo, e_rem, e_and, e_or, e_xor, e_shl, e_shr, e_eql, e_neq, e_lss, e_leq, e_gtr, e_geq, e_beq, e_bne, e_peq1, e_peq2, e_pne1, e_pne2, e_zeq1, e_zeq2, e_zne1, e_zne2, e_feq1, e_fne1, e_feq2, e_fne2, e_seq, e_sne, e_ta1, e_ta2, Nat.zero_add, Nat.add_zero, Bool.not_true, Bool.not_false]
  by_cases hlt : j < m.ls.length
  · have hlt' : (j : Int) < ((m.ls.length : Nat) : Int) := by omega
    simp only [hlt', decide_true, e_fd, e_nck, e_pkt, e_pkf, e_gdtt, e_gdtf, e_gdft, e_gdff, e_ift, e_iff, e_not, e_ln, e_lnT, e_cp, e_cvi, e_ex20, e_ex21, e_ex30, e_ex31, e_ex32, e_add, e_sub, e_mul, e_quo, e_rem, e_and, e_or, e_xor, e_shl, e_shr, e_eql, e_neq, e_lss, e_leq, e_gtr, e_geq, e_beq, e_bne, e_peq1, e_peq2, e_pne1, e_pne2, e_zeq1, e_zeq2, e_zne1, e_zne2, e_feq1, e_fne1, e_feq2, e_fne2, e_seq, e_sne, e_ta1, e_ta2, Nat.zero_add, Nat.add_zero, Bool.not_true, Bool.not_false]
    unfold s32_p5
    refine h1.lines.read (K := fun t37 w => nw 100 #[(.int .i64 0), (.slice none 0 0)] (fun t4 w => stn 2 t4 t37 (fun w => s32_p4 K _ (.pointer (some ⟨d, 0, none⟩)) t4 m.lv (I m.ls.length) (I j) w) w) w) lnV_len hlt ?_
    refine nw_r fun w2 r2 hk2 hz2 => ?_
    refine stn_r r2 rfl (show 0 + 2 ≤ 2 by decide) rfl fun w3 r3 hk3 hz3 => ?_
    have r3' : Row w3 w1.heap.size 100 [I (m.ls[j]).1, buf (m.ls[j]).2] := r3
    have hk13 : Kp (fun _ => False) w1 w3 := hk2.then hk3 (fun k hk (q : k = _) => by omega)
    obtain ⟨h12, x, hfr, hrow⟩ := h1.lin m.ls[j] (List.getElem_mem hlt)
    have hxs := h1.rsec _ _ hfr
    have hfr' : s.fr (m.ls[j]).1 = some x := hfr
    have h3 := h1.kp' hk13
    have hk3d : Kp (fun _ => False) w1 (drw w3) := hk13.trans kp_drw
    unfold s32_p4 s32_p4_d
    simp only [e_fd, e_nck, e_pkt, e_pkf, e_gdtt, e_gdtf, e_gdft, e_gdff, e_ift, e_iff, e_not, e_ln, e_lnT, e_cp, e_cvi, e_ex20, e_ex21, e_ex30, e_ex31, e_ex32, e_add, e_sub, e_mul, e_quo, e_rem, e_and, e_or, e_xor, e_shl, e_shr, e_eql, e_neq, e_lss, e_leq, e_gtr, e_geq, e_beq, e_bne, e_peq1, e_peq2, e_pne1, e_pne2, e_zeq1, e_zeq2, e_zne1, e_zne2, e_feq1, e_fne1, e_feq2, e_fne2, e_seq, e_sne, e_ta1, e_ta2, Nat.zero_add, Nat.add_zero, Bool.not_true, Bool.not_false]
    refine ldn_r h3.disk.drw (show 0 + 2 ≤ 17 by decide) ?_
    refine ld1_r r3'.drw rfl ?_
    refine span_ok h12 fun w4 hk4 => ?_
    simp only [e_fd, e_nck, e_pkt, e_pkf, e_gdtt, e_gdtf, e_gdft, e_gdff, e_ift, e_iff, e_not, e_ln, e_lnT, e_cp, e_cvi, e_ex20, e_ex21, e_ex30, e_ex31, e_ex32, e_add, e_sub, e_mul, e_quo, e_rem, e_and, e_or, e_xor, e_shl, e_shr, e_eql, e_neq, e_lss, e_leq, e_gtr, e_geq, e_beq, e_bne, e_peq1, e_peq2, e_pne1, e_pne2, e_zeq1, e_zeq2, e_zne1, e_zne2, e_feq1, e_fne1, e_feq2, e_fne2, e_seq, e_sne, e_ta1, e_ta2, Nat.zero_add, Nat.add_zero, Bool.not_true, Bool.not_false]
    have hk14 := hk3d.trans hk4
    have h4 := h1.kp' hk14
    have r4 := hk4.row' r3'.drw
    have body : ∀ B, (∀ w5, Dk w5 d m { s with flu := fluJ s (m.ls.take (j + 1)) } → Kp (fun b => b = m.pb) w w5 → B [.pointer (some ⟨d, 0, none⟩), m.lv, I m.ls.length, I ((j + 1 : Nat) : Int)] w5) → s32_p3 K B (.pointer (some ⟨d, 0, none⟩)) (.pointer (some ⟨w1.heap.size, 0, none⟩)) (I ((16 * (m.ls[j]).1 : Nat) : Int)) (I ((16 * (m.ls[j]).1 + 16 : Nat) : Int)) m.lv (I m.ls.length) (I j) w4 := by
      intro B hB
      unfold s32_p3 s32_p3_d
      simp only [e_fd, e_nck, e_pkt, e_pkf, e_gdtt, e_gdtf, e_gdft, e_gdff, e_ift, e_iff, e_not, e_ln, e_lnT, e_cp, e_cvi, e_ex20, e_ex21, e_ex30, e_ex31, e_ex32, e_add, e_sub, e_mul, e_quo, e_rem, e_and, e_or, e_xor, e_shl, e_shr, e_eql, e_neq, e_lss, e_leq, e_gtr, e_geq, e_beq, e_bne, e_peq1, e_peq2, e_pne1, e_pne2, e_zeq1, e_zeq2, e_zne1, e_zne2, e_feq1, e_fne1, e_feq2, e_fne2, e_seq, e_sne, e_ta1, e_ta2, Nat.zero_add, Nat.add_zero, Bool.not_true, Bool.not_false]
      refine ld1_r h4.disk.drw rfl ?_
      refine pslice h12 (Nat.le_refl 16) m.pb rfl rfl ?_
      refine ld1_r r4.drw rfl ?_
      have hk15 : Kp (fun _ => False) w1 (drw w4) := hk14.trans kp_drw
      have h5 := h1.kp' hk15
      have hvs : Vs U8 (drw w4) (.slice (some ⟨(m.ls[j]).2, 0, none⟩) 16 16) ((x.drop 0).take 16) := vs_part (hk15.row' hrow) (by rw [hxs.1]; omega) (by omega) (by omega)
      rw [List.drop_zero, List.take_of_length_le (by rw [hxs.1]; omega)] at hvs
      refine plat_cp h5 h12 hvs hxs.1 (Nat.le_refl _) hxs.2 fun w6 h6 hk6 hz6 => ?_
      unfold s32_p2
      simp only [e_fd, e_nck, e_pkt, e_pkf, e_gdtt, e_gdtf, e_gdft, e_gdff, e_ift, e_iff, e_not, e_ln, e_lnT, e_cp, e_cvi, e_ex20, e_ex21, e_ex30, e_ex31, e_ex32, e_add, e_sub, e_mul, e_quo, e_rem, e_and, e_or, e_xor, e_shl, e_shr, e_eql, e_neq, e_lss, e_leq, e_gtr, e_geq, e_beq, e_bne, e_peq1, e_peq2, e_pne1, e_pne2, e_zeq1, e_zeq2, e_zne1, e_zne2, e_feq1, e_fne1, e_feq2, e_fne2, e_seq, e_sne, e_ta1, e_ta2, Nat.zero_add, Nat.add_zero, Bool.not_true, Bool.not_false]
      rw [wrap64_id (by omega) (by omega)]
      have : fluJ s (m.ls.take (j + 1)) = upd (fluJ s (m.ls.take j)) (m.ls[j]).1 (x ++ (fluJ s (m.ls.take j) (m.ls[j]).1).drop 16) := by
        funext i
        have hd : (fluJ s (m.ls.take j) (m.ls[j]).1).drop 16 = [] := by rw [List.drop_eq_nil_iff]; have := (h5.fsec _ h12).1; exact Nat.le_of_eq this
        rw [hd, List.append_nil]
        unfold upd
        have mem1 : ∀ i : Nat, i ∈ (m.ls.take (j + 1)).map (·.1) ↔ (i ∈ (m.ls.take j).map (·.1) ∨ i = (m.ls[j]).1) := by
          intro i
          rw [List.take_succ_eq_append_getElem hlt, List.map_append, List.mem_append]
          simp
        by_cases e : i = (m.ls[j]).1
        · rw [if_pos e]
          subst e
          unfold fluJ
          rw [hfr']
          simp only
          rw [if_pos ((mem1 _).2 (.inr rfl))]
        · rw [if_neg e]
          unfold fluJ
          cases s.fr i with
          | none => rfl
          | some y =>
            simp only
            by_cases q : i ∈ (m.ls.take j).map (·.1)
            · rw [if_pos q, if_pos ((mem1 i).2 (.inl q))]
            · rw [if_neg q, if_neg (fun r => ((mem1 i).1 r).elim q e)]
      have hB := hB w6 (by rw [this]; exact h6) ((hk1.trans hk15.none).trans hk6)
      simpa using hB
    have done := body (fun l' w' => ∃ m', m' < m.ls.length - j ∧ ∃ j : Nat, j ≤ m.ls.length ∧ m' = m.ls.length - j ∧ l' = [.pointer (some ⟨d, 0, none⟩), m.lv, I m.ls.length, I j] ∧ Dk w' d m { s with flu := fluJ s (m.ls.take j) } ∧ Kp (fun b => b = m.pb) w w')
      (fun w5 h5 hk5 => ⟨m.ls.length - (j + 1), by omega, j + 1, by omega, rfl, rfl, h5, hk5⟩)
    exact ⟨⟨done, done⟩, done⟩
  · have hlt' : ¬ (j : Int) < ((m.ls.length : Nat) : Int) := by omega
    simp only [hlt', decide_false, e_fd, e_nck, e_pkt, e_pkf, e_gdtt, e_gdtf, e_gdft, e_gdff, e_ift, e_iff, e_not, e_ln, e_lnT, e_cp, e_cvi, e_ex20, e_ex21, e_ex30, e_ex31, e_ex32, e_add, e_sub, e_mul, e_quo, e_rem, e_and, e_or, e_xor, e_shl, e_shr, e_eql, e_neq, e_lss, e_leq, e_gtr, e_geq, e_beq, e_bne, e_peq1, e_peq2, e_pne1, e_pne2, e_zeq1, e_zeq2, e_zne1, e_zne2, e_feq1, e_fne1, e_feq2, e_fne2, e_seq, e_sne, e_ta1, e_ta2, Nat.zero_add, Nat.add_zero, Bool.not_true, Bool.not_false]
    unfold s32_p1
    simp only [e_fd, e_nck, e_pkt, e_pkf, e_gdtt, e_gdtf, e_gdft, e_gdff, e_ift, e_iff, e_not, e_ln, e_lnT, e_cp, e_cvi, e_ex20, e_ex21, e_ex30, e_ex31, e_ex32, e_add, e_sub, e_mul, e_quo, e_rem, e_and, e_or, e_xor, e_shl, e_shr, e_eql, e_neq, e_lss, e_leq, e_gtr, e_geq, e_beq, e_bne, e_peq1, e_peq2, e_pne1, e_pne2, e_zeq1, e_zeq2, e_zne1, e_zne2, e_feq1, e_fne1, e_feq2, e_fne2, e_seq, e_sne, e_ta1, e_ta2, Nat.zero_add, Nat.add_zero, Bool.not_true, Bool.not_false]
    rw [List.take_of_length_le (by omega)] at h1
    have : fluJ s m.ls = nowS s := by
      funext i
      unfold fluJ nowS
      cases hf : s.fr i with
      | none => rfl
      | some x =>
        simp only [Option.getD_some]
        rw [if_pos]
        by_cases q : ∃ p ∈ m.ls, p.1 = i
        · obtain ⟨p, hp, e⟩ := q; rw [← e]; exact List.mem_map_of_mem hp
        · rw [h.frn i (fun p hp e => q ⟨p, hp, e⟩)] at hf; cases hf
    rw [this] at h1
    refine drop_ok h1 fun w2 m2 h2 st2 => ?_
    exact hK w2 m2 h2 ((Stp.of hk1 fun b _ q => .inr (.inl q)).trans st2)

theorem flush_ok (h : Dk w d m s) (hK : ∀ w' m' r, Dk w' d m' (flS s).2 → Stp w w' d m m' → Er w' r (flS s).1 → K r w') : cl Try.prog 32 #[.pointer (some ⟨d, 0, none⟩)] K w := by
  apply c32
  unfold s32_p8
  simp only [e_fd, e_nck, e_pkt, e_pkf, e_gdtt, e_gdtf, e_gdft, e_gdff, e_ift, e_iff, e_not, e_ln, e_lnT, e_cp, e_cvi, e_ex20, e_ex21, e_ex30, e_ex31, e_ex32, e_add, e_sub, e_mul, e_quo, e_rem, e_and, e_or, e_xor, e_shl, e_shr, e_eql, e_neq, e_lss, e_leq, e_gtr, e_geq, e_beq, e_bne, e_peq1, e_peq2, e_pne1, e_pne2, e_zeq1, e_zeq2, e_zne1, e_zne2, e_feq1, e_fne1, e_feq2, e_fne2, e_seq, e_sne, e_ta1, e_ta2, Nat.zero_add, Nat.add_zero, Bool.not_true, Bool.not_false]
  refine ld1_r h.disk rfl ?_
  unfold flS at hK
  cases ho : s.off with
  | true =>
    rw [if_pos ho] at hK
    simp only [e_fd, e_nck, e_pkt, e_pkf, e_gdtt, e_gdtf, e_gdft, e_gdff, e_ift, e_iff, e_not, e_ln, e_lnT, e_cp, e_cvi, e_ex20, e_ex21, e_ex30, e_ex31, e_ex32, e_add, e_sub, e_mul, e_quo, e_rem, e_and, e_or, e_xor, e_shl, e_shr, e_eql, e_neq, e_lss, e_leq, e_gtr, e_geq, e_beq, e_bne, e_peq1, e_peq2, e_pne1, e_pne2, e_zeq1, e_zeq2, e_zne1, e_zne2, e_feq1, e_fne1, e_feq2, e_fne2, e_seq, e_sne, e_ta1, e_ta2, Nat.zero_add, Nat.add_zero, Bool.not_true, Bool.not_false]
    refine bdq_r rfl ?_
    refine nw_r fun w2 r2 hk2 hz2 => ?_
    exact hK w2 m _ (h.kp' hk2) (Stp.of0 hk2) (er_mk (c := 4) (by decide) r2)
  | false =>
    rw [if_neg (by rw [ho]; decide)] at hK
    simp only [e_fd, e_nck, e_pkt, e_pkf, e_gdtt, e_gdtf, e_gdft, e_gdff, e_ift, e_iff, e_not, e_ln, e_lnT, e_cp, e_cvi, e_ex20, e_ex21, e_ex30, e_ex31, e_ex32, e_add, e_sub, e_mul, e_quo, e_rem, e_and, e_or, e_xor, e_shl, e_shr, e_eql, e_neq, e_lss, e_leq, e_gtr, e_geq, e_beq, e_bne, e_peq1, e_peq2, e_pne1, e_pne2, e_zeq1, e_zeq2, e_zne1, e_zne2, e_feq1, e_fne1, e_feq2, e_fne2, e_seq, e_sne, e_ta1, e_ta2, Nat.zero_add, Nat.add_zero, Bool.not_true, Bool.not_false]
    refine ld1_r h.disk rfl ?_
    simp only [e_fd, e_nck, e_pkt, e_pkf, e_gdtt, e_gdtf, e_gdft, e_gdff, e_ift, e_iff, e_not, e_ln, e_lnT, e_cp, e_cvi, e_ex20, e_ex21, e_ex30, e_ex31, e_ex32, e_add, e_sub, e_mul, e_quo, e_rem, e_and, e_or, e_xor, e_shl, e_shr, e_eql, e_neq, e_lss, e_leq, e_gtr, e_geq, e_beq, e_bne, e_peq1, e_peq2, e_pne1, e_pne2, e_zeq1, e_zeq2, e_zne1, e_zne2, e_feq1, e_fne1, e_feq2, e_fne2, e_seq, e_sne, e_ta1, e_ta2, Nat.zero_add, Nat.add_zero, Bool.not_true, Bool.not_false]
    refine st1_r h.disk (show 14 < 17 by decide) rfl fun w1 r1 hk1 hz1 => ?_
    have h1 : Dk w1 d m { s with fl := inc s.fl } := h.setD hk1 r1 rfl rfl rfl h.left0 h.left1
    have st1 : Stp w w1 d m m := Stp.of hk1 fun b _ q => .inl q
    refine burn_ok h1 fun w2 m2 h2 st2 => ?_
    cases hb : (burnS { s with fl := inc s.fl }).1 with
    | true =>
      rw [hb, if_pos rfl] at hK
      simp only [e_fd, e_nck, e_pkt, e_pkf, e_gdtt, e_gdtf, e_gdft, e_gdff, e_ift, e_iff, e_not, e_ln, e_lnT, e_cp, e_cvi, e_ex20, e_ex21, e_ex30, e_ex31, e_ex32, e_add, e_sub, e_mul, e_quo, e_rem, e_and, e_or, e_xor, e_shl, e_shr, e_eql, e_neq, e_lss, e_leq, e_gtr, e_geq, e_beq, e_bne, e_peq1, e_peq2, e_pne1, e_pne2, e_zeq1, e_zeq2, e_zne1, e_zne2, e_feq1, e_fne1, e_feq2, e_fne2, e_seq, e_sne, e_ta1, e_ta2, Nat.zero_add, Nat.add_zero, Bool.not_true, Bool.not_false]
      refine bdq_r rfl ?_
      refine nw_r fun w3 r3 hk3 hz3 => ?_
      exact hK w3 m2 _ (h2.kp' hk3) ((st1.trans st2).trans (Stp.of0 hk3)) (er_mk (c := 4) (by decide) r3)
    | false =>
      rw [hb, if_neg (by decide)] at hK
      simp only [e_fd, e_nck, e_pkt, e_pkf, e_gdtt, e_gdtf, e_gdft, e_gdff, e_ift, e_iff, e_not, e_ln, e_lnT, e_cp, e_cvi, e_ex20, e_ex21, e_ex30, e_ex31, e_ex32, e_add, e_sub, e_mul, e_quo, e_rem, e_and, e_or, e_xor, e_shl, e_shr, e_eql, e_neq, e_lss, e_leq, e_gtr, e_geq, e_beq, e_bne, e_peq1, e_peq2, e_pne1, e_pne2, e_zeq1, e_zeq2, e_zne1, e_zne2, e_feq1, e_fne1, e_feq2, e_fne2, e_seq, e_sne, e_ta1, e_ta2, Nat.zero_add, Nat.add_zero, Bool.not_true, Bool.not_false]
      refine ld1_r h2.disk rfl ?_
      refine h2.lines.ln ?_
      refine flush_loop h2 fun w3 m3 h3 st3 => ?_
      exact hK w3 m3 _ h3 ((st1.trans st2).trans st3) er0
end

/-! ### a step of a script -/
structure Op where
  kind : Int
  sec : Int
  data : List Int
  len : Int
  after : Int
  keep : List Int
  torn : Int
  at_ : Int

/-- a step in memory; its slices lie below B -/
def OpV (w : World) (B : Nat) (v : Value) (op : Op) : Prop :=
  ∃ dv kv, v = .agg #[I op.kind, I op.sec, dv, I op.len, I op.after, kv, I op.torn, I op.at_] ∧ Vs U8 w dv op.data ∧ By op.data ∧ Vs I w kv op.keep ∧ op.keep.length ≤ 65536 ∧ op.after ≤ 9223372036854775807 ∧
    (∀ b o c, 0 < op.data.length → dv = .slice (some ⟨b, o, none⟩) op.data.length c → b < B) ∧ (∀ b o c, 0 < op.keep.length → kv = .slice (some ⟨b, o, none⟩) op.keep.length c → b < B)
theorem OpV.kp {w w' : World} {B : Nat} {v : Value} {op : Op} {T : Nat → Prop} (h : OpV w B v op) (hk : Kp T w w') (hT : ∀ b, T b → B ≤ b) : OpV w' B v op := by
  obtain ⟨dv, kv, h1, h2, h3, h4, h5, h6, h7, h8⟩ := h
  exact ⟨dv, kv, h1, h2.kp hk (fun b o c h0 e q => by have := h7 b o c h0 e; have := hT b q; omega), h3, h4.kp hk (fun b o c h0 e q => by have := h8 b o c h0 e; have := hT b q; omega), h5, h6, h7, h8⟩

def clampL (n : Int) : Nat := if n < 0 then 0 else if 48 < n then 48 else n.toNat
theorem length_ok {w : World} {n : Int} {K : Value → World → Prop} (hK : K (I (clampL n : Nat)) w) : cl Try.prog 28 #[I n] K w := by
  apply c28
  unfold s28_p1
  simp only [e_fd, e_nck, e_pkt, e_pkf, e_gdtt, e_gdtf, e_gdft, e_gdff, e_ift, e_iff, e_not, e_ln, e_lnT, e_cp, e_cvi, e_ex20, e_ex21, e_ex30, e_ex31, e_ex32, e_add, e_sub, e_mul, e_quo, e_rem, e_and, e_or, e_xor, e_shl, e_shr, e_eql, e_neq, e_lss, e_leq, e_gtr, e_geq, e_beq, e_bne, e_peq1, e_peq2, e_pne1, e_pne2, e_zeq1, e_zeq2, e_zne1, e_zne2, e_feq1, e_fne1, e_feq2, e_fne2, e_seq, e_sne, e_ta1, e_ta2, Nat.zero_add, Nat.add_zero, Bool.not_true, Bool.not_false]
  unfold clampL at hK
  by_cases h0 : n < 0
  · simp only [h0, decide_true, e_fd, e_nck, e_pkt, e_pkf, e_gdtt, e_gdtf, e_gdft, e_gdff, e_ift, e_iff, e_not, e_ln, e_lnT, e_cp, e_cvi, e_ex20, e_ex21, e_ex30, e_ex31, e_ex32, e_add, e_sub, e_mul, e_quo, e_rem, e_and, e_or, e_xor, e_shl, e_shr, e_eql, e_neq, e_lss, e_leq, e_gtr, e_geq, e_beq, e_bne, e_peq1, e_peq2, e_pne1, e_pne2, e_zeq1, e_zeq2, e_zne1, e_zne2, e_feq1, e_fne1, e_feq2, e_fne2, e_seq, e_sne, e_ta1, e_ta2, Nat.zero_add, Nat.add_zero, Bool.not_true, Bool.not_false]
    rw [if_pos h0] at hK; exact hK
  · simp only [h0, decide_false, e_fd, e_nck, e_pkt, e_pkf, e_gdtt, e_gdtf, e_gdft, e_gdff, e_ift, e_iff, e_not, e_ln, e_lnT, e_cp, e_cvi, e_ex20, e_ex21, e_ex30, e_ex31, e_ex32, e_add, e_sub, e_mul, e_quo, e_rem, e_and, e_or, e_xor, e_shl, e_shr, e_eql, e_neq, e_lss, e_leq, e_gtr, e_geq, e_beq, e_bne, e_peq1, e_peq2, e_pne1, e_pne2, e_zeq1, e_zeq2, e_zne1, e_zne2, e_feq1, e_fne1, e_feq2, e_fne2, e_seq, e_sne, e_ta1, e_ta2, Nat.zero_add, Nat.add_zero, Bool.not_true, Bool.not_false]
    rw [if_neg h0] at hK
    by_cases h1 : 48 < n
    · simp only [h1, decide_true, e_fd, e_nck, e_pkt, e_pkf, e_gdtt, e_gdtf, e_gdft, e_gdff, e_ift, e_iff, e_not, e_ln, e_lnT, e_cp, e_cvi, e_ex20, e_ex21, e_ex30, e_ex31, e_ex32, e_add, e_sub, e_mul, e_quo, e_rem, e_and, e_or, e_xor, e_shl, e_shr, e_eql, e_neq, e_lss, e_leq, e_gtr, e_geq, e_beq, e_bne, e_peq1, e_peq2, e_pne1, e_pne2, e_zeq1, e_zeq2, e_zne1, e_zne2, e_feq1, e_fne1, e_feq2, e_fne2, e_seq, e_sne, e_ta1, e_ta2, Nat.zero_add, Nat.add_zero, Bool.not_true, Bool.not_false]
      rw [if_pos h1] at hK; exact hK
    · simp only [h1, decide_false, e_fd, e_nck, e_pkt, e_pkf, e_gdtt, e_gdtf, e_gdft, e_gdff, e_ift, e_iff, e_not, e_ln, e_lnT, e_cp, e_cvi, e_ex20, e_ex21, e_ex30, e_ex31, e_ex32, e_add, e_sub, e_mul, e_quo, e_rem, e_and, e_or, e_xor, e_shl, e_shr, e_eql, e_neq, e_lss, e_leq, e_gtr, e_geq, e_beq, e_bne, e_peq1, e_peq2, e_pne1, e_pne2, e_zeq1, e_zeq2, e_zne1, e_zne2, e_feq1, e_fne1, e_feq2, e_fne2, e_seq, e_sne, e_ta1, e_ta2, Nat.zero_add, Nat.add_zero, Bool.not_true, Bool.not_false]
      rw [if_neg h1, Int.toNat_of_nonneg (by omega)] at hK; exact hK

def fillerL (op : Op) : List Int := List.replicate (clampL op.len) 238
def playS (s : DS) (op : Op) : Int × List Int × DS :=
  if op.kind = 0 then ((wrS s op.sec op.data).1, [], (wrS s op.sec op.data).2)
  else if op.kind = 1 then (chkC s op.sec (clampL op.len : Nat), rdD s op.sec (fillerL op), rdS s op.sec (clampL op.len : Nat))
  else if op.kind = 2 then ((flS s).1, [], (flS s).2)
  else if op.kind = 3 then ((crS s op.keep op.torn op.at_).1, [], (crS s op.keep op.torn op.at_).2)
  else if op.kind = 4 then ((reS s).1, [], (reS s).2)
  else if op.kind = 5 then ((arS s op.after op.keep op.torn op.at_).1, [], (arS s op.after op.keep op.torn op.at_).2)
  else if op.kind = 6 then ((diS s).1, [], (diS s).2)
  else (0, [], s)

/-- the bytes that a step returns -/
def Dv (w w' : World) (d : Nat) (m' : Mem) (dv : Value) (k : Int) (ys : List Int) : Prop :=
  By ys ∧ ((k ≠ 1 ∧ dv = .slice none 0 0 ∧ ys = []) ∨ (k = 1 ∧ ∃ b, dv = .slice (some ⟨b, 0, none⟩) ys.length ys.length ∧ Row w' b 5 (ys.map U8) ∧ w.heap.size ≤ b ∧ ¬ Own d m' b))

section
variable {w : World} {d : Nat} {m : Mem} {s : DS} {K : Value → World → Prop}
/-- a step in memory; its slices lie outside Q -/
def OpQ (w : World) (Q : Nat → Prop) (v : Value) (op : Op) : Prop :=
  ∃ dv kv, v = .agg #[I op.kind, I op.sec, dv, I op.len, I op.after, kv, I op.torn, I op.at_] ∧ Vs U8 w dv op.data ∧ By op.data ∧ Vs I w kv op.keep ∧ op.keep.length ≤ 65536 ∧ op.after ≤ 9223372036854775807 ∧
    (∀ b o c, 0 < op.data.length → dv = .slice (some ⟨b, o, none⟩) op.data.length c → ¬ Q b) ∧ (∀ b o c, 0 < op.keep.length → kv = .slice (some ⟨b, o, none⟩) op.keep.length c → ¬ Q b)
theorem play_okQ {v : Value} {op : Op} (h : Dk w d m s) (hop : OpQ w (Own d m) v op)
    (hK : ∀ w' m' dv, Dk w' d m' (playS s op).2.2 → Stp w w' d m m' → Dv w w' d m' dv op.kind (playS s op).2.1 → K (.tuple #[I (playS s op).1, dv]) w') : cl Try.prog 14 #[.pointer (some ⟨d, 0, none⟩), v] K w := by
  obtain ⟨dv, kv, rfl, hdv, hby, hkv, hkl, haf, hdb, hkb⟩ := hop
  apply c14
  unfold s14_p12
  refine nw_r fun w1 r1 hk1 hz1 => ?_
  have r1' : Row w1 w.heap.size 34 [I op.kind, I op.sec, dv, I op.len, I op.after, kv, I op.torn, I op.at_] := r1
  have h1 := h.kp' hk1
  have hdv1 := hdv.kp' hk1
  have hkv1 := hkv.kp' hk1
  have s01 : Stp w w1 d m m := Stp.of0 hk1
  simp only [e_fd, e_nck, e_pkt, e_pkf, e_gdtt, e_gdtf, e_gdft, e_gdff, e_ift, e_iff, e_not, e_ln, e_lnT, e_cp, e_cvi, e_ex20, e_ex21, e_ex30, e_ex31, e_ex32, e_add, e_sub, e_mul, e_quo, e_rem, e_and, e_or, e_xor, e_shl, e_shr, e_eql, e_neq, e_lss, e_leq, e_gtr, e_geq, e_beq, e_bne, e_peq1, e_peq2, e_pne1, e_pne2, e_zeq1, e_zeq2, e_zne1, e_zne2, e_feq1, e_fne1, e_feq2, e_fne2, e_seq, e_sne, e_ta1, e_ta2, Nat.zero_add, Nat.add_zero, Bool.not_true, Bool.not_false]
  refine ld1_r r1' rfl ?_
  unfold s14_p11
  simp only [e_fd, e_nck, e_pkt, e_pkf, e_gdtt, e_gdtf, e_gdft, e_gdff, e_ift, e_iff, e_not, e_ln, e_lnT, e_cp, e_cvi, e_ex20, e_ex21, e_ex30, e_ex31, e_ex32, e_add, e_sub, e_mul, e_quo, e_rem, e_and, e_or, e_xor, e_shl, e_shr, e_eql, e_neq, e_lss, e_leq, e_gtr, e_geq, e_beq, e_bne, e_peq1, e_peq2, e_pne1, e_pne2, e_zeq1, e_zeq2, e_zne1, e_zne2, e_feq1, e_fne1, e_feq2, e_fne2, e_seq, e_sne, e_ta1, e_ta2, Nat.zero_add, Nat.add_zero, Bool.not_true, Bool.not_false]
  unfold s14_p10
  unfold playS at hK
  have hnp : ∀ b o c, 0 < op.keep.length → kv = .slice (some ⟨b, o, none⟩) op.keep.length c → b ≠ m.pb := by
    intro b o c h0 e q
    exact hkb b o c h0 e (.inr (.inl q))
  by_cases k0 : op.kind = 0
  · have e : (op.kind == 0) = true := by simpa using k0
    simp only [e, e_fd, e_nck, e_pkt, e_pkf, e_gdtt, e_gdtf, e_gdft, e_gdff, e_ift, e_iff, e_not, e_ln, e_lnT, e_cp, e_cvi, e_ex20, e_ex21, e_ex30, e_ex31, e_ex32, e_add, e_sub, e_mul, e_quo, e_rem, e_and, e_or, e_xor, e_shl, e_shr, e_eql, e_neq, e_lss, e_leq, e_gtr, e_geq, e_beq, e_bne, e_peq1, e_peq2, e_pne1, e_pne2, e_zeq1, e_zeq2, e_zne1, e_zne2, e_feq1, e_fne1, e_feq2, e_fne2, e_seq, e_sne, e_ta1, e_ta2, Nat.zero_add, Nat.add_zero, Bool.not_true, Bool.not_false]
    rw [if_pos k0] at hK
    unfold s14_p2
    simp only [e_fd, e_nck, e_pkt, e_pkf, e_gdtt, e_gdtf, e_gdft, e_gdff, e_ift, e_iff, e_not, e_ln, e_lnT, e_cp, e_cvi, e_ex20, e_ex21, e_ex30, e_ex31, e_ex32, e_add, e_sub, e_mul, e_quo, e_rem, e_and, e_or, e_xor, e_shl, e_shr, e_eql, e_neq, e_lss, e_leq, e_gtr, e_geq, e_beq, e_bne, e_peq1, e_peq2, e_pne1, e_pne2, e_zeq1, e_zeq2, e_zne1, e_zne2, e_feq1, e_fne1, e_feq2, e_fne2, e_seq, e_sne, e_ta1, e_ta2, Nat.zero_add, Nat.add_zero, Bool.not_true, Bool.not_false]
    refine ld1_r r1' rfl ?_
    refine ld1_r r1' rfl ?_
    refine write_ok h1 hdv1 hdb hby fun w2 m2 r h2 st2 he => ?_
    refine codeOf_ok he ?_
    exact hK w2 m2 _ h2 (s01.trans st2) ⟨fun x hx => by simp at hx, .inl ⟨by omega, rfl, rfl⟩⟩
  · have e : (op.kind == 0) = false := by simpa using k0
    simp only [e, e_fd, e_nck, e_pkt, e_pkf, e_gdtt, e_gdtf, e_gdft, e_gdff, e_ift, e_iff, e_not, e_ln, e_lnT, e_cp, e_cvi, e_ex20, e_ex21, e_ex30, e_ex31, e_ex32, e_add, e_sub, e_mul, e_quo, e_rem, e_and, e_or, e_xor, e_shl, e_shr, e_eql, e_neq, e_lss, e_leq, e_gtr, e_geq, e_beq, e_bne, e_peq1, e_peq2, e_pne1, e_pne2, e_zeq1, e_zeq2, e_zne1, e_zne2, e_feq1, e_fne1, e_feq2, e_fne2, e_seq, e_sne, e_ta1, e_ta2, Nat.zero_add, Nat.add_zero, Bool.not_true, Bool.not_false]
    rw [if_neg k0] at hK
    unfold s14_p9
    simp only [e_fd, e_nck, e_pkt, e_pkf, e_gdtt, e_gdtf, e_gdft, e_gdff, e_ift, e_iff, e_not, e_ln, e_lnT, e_cp, e_cvi, e_ex20, e_ex21, e_ex30, e_ex31, e_ex32, e_add, e_sub, e_mul, e_quo, e_rem, e_and, e_or, e_xor, e_shl, e_shr, e_eql, e_neq, e_lss, e_leq, e_gtr, e_geq, e_beq, e_bne, e_peq1, e_peq2, e_pne1, e_pne2, e_zeq1, e_zeq2, e_zne1, e_zne2, e_feq1, e_fne1, e_feq2, e_fne2, e_seq, e_sne, e_ta1, e_ta2, Nat.zero_add, Nat.add_zero, Bool.not_true, Bool.not_false]
    unfold s14_p8
    by_cases k1 : op.kind = 1
    · have e : (op.kind == 1) = true := by simpa using k1
      simp only [e, e_fd, e_nck, e_pkt, e_pkf, e_gdtt, e_gdtf, e_gdft, e_gdff, e_ift, e_iff, e_not, e_ln, e_lnT, e_cp, e_cvi, e_ex20, e_ex21, e_ex30, e_ex31, e_ex32, e_add, e_sub, e_mul, e_quo, e_rem, e_and, e_or, e_xor, e_shl, e_shr, e_eql, e_neq, e_lss, e_leq, e_gtr, e_geq, e_beq, e_bne, e_peq1, e_peq2, e_pne1, e_pne2, e_zeq1, e_zeq2, e_zne1, e_zne2, e_feq1, e_fne1, e_feq2, e_fne2, e_seq, e_sne, e_ta1, e_ta2, Nat.zero_add, Nat.add_zero, Bool.not_true, Bool.not_false]
      rw [if_pos k1] at hK
      unfold s14_p6
      simp only [e_fd, e_nck, e_pkt, e_pkf, e_gdtt, e_gdtf, e_gdft, e_gdff, e_ift, e_iff, e_not, e_ln, e_lnT, e_cp, e_cvi, e_ex20, e_ex21, e_ex30, e_ex31, e_ex32, e_add, e_sub, e_mul, e_quo, e_rem, e_and, e_or, e_xor, e_shl, e_shr, e_eql, e_neq, e_lss, e_leq, e_gtr, e_geq, e_beq, e_bne, e_peq1, e_peq2, e_pne1, e_pne2, e_zeq1, e_zeq2, e_zne1, e_zne2, e_feq1, e_fne1, e_feq2, e_fne2, e_seq, e_sne, e_ta1, e_ta2, Nat.zero_add, Nat.add_zero, Bool.not_true, Bool.not_false]
      refine ld1_r r1' rfl ?_
      refine length_ok ?_
      have hcl : clampL op.len ≤ 48 := by unfold clampL; split; omega; split <;> omega
      refine mks_r (by omega) (by omega) fun w2 r2 hk2 hz2 => ?_
      simp only [e_fd, e_nck, e_pkt, e_pkf, e_gdtt, e_gdtf, e_gdft, e_gdff, e_ift, e_iff, e_not, e_ln, e_lnT, e_cp, e_cvi, e_ex20, e_ex21, e_ex30, e_ex31, e_ex32, e_add, e_sub, e_mul, e_quo, e_rem, e_and, e_or, e_xor, e_shl, e_shr, e_eql, e_neq, e_lss, e_leq, e_gtr, e_geq, e_beq, e_bne, e_peq1, e_peq2, e_pne1, e_pne2, e_zeq1, e_zeq2, e_zne1, e_zne2, e_feq1, e_fne1, e_feq2, e_fne2, e_seq, e_sne, e_ta1, e_ta2, Nat.zero_add, Nat.add_zero, Bool.not_true, Bool.not_false]
      unfold s14_p5
      have hd1 : d < w1.heap.size := h1.lt (.inl rfl)
      refine ⟨fun n l w' => ∃ j : Nat, j ≤ clampL op.len ∧ n = clampL op.len - j ∧ l = [.pointer (some ⟨d, 0, none⟩), .pointer (some ⟨w.heap.size, 0, none⟩), .slice (some ⟨w1.heap.size, 0, none⟩) (clampL op.len) (clampL op.len), I (clampL op.len : Nat), I j] ∧ Row w' w1.heap.size 5 ((List.replicate j (238 : Int) ++ List.replicate (clampL op.len - j) 0).map U8) ∧ Kp (fun _ => False) w1 w',
        clampL op.len, ⟨0, by omega, by omega, rfl, by simpa using r2, hk2⟩, ?_⟩
      rintro n l w3 ⟨j, hj, rfl, rfl, r3, hk3⟩
      rw [s14_p5_Fe]
      unfold s14_p4
      simp only [e_fd, e_nck, e_pkt, e_pkf, e_gdtt, e_gdtf, e_gdft, e_gdff, e_ift, e_iff, e_not, e_ln, e_lnT, e_cp, e_cvi, e_ex20, e_ex21, e_ex30, e_ex31, e_ex32, e_add, e_sub, e_mul, e_quo, e_rem, e_and, e_or, e_xor, e_shl, e_shr, e_eql, e_neq, e_lss, e_leq, e_gtr, e_geq, e_beq, e_bne, e_peq1, e_peq2, e_pne1, e_pne2, e_zeq1, e_zeq2, e_zne1, e_zne2, e_feq1, e_fne1, e_feq2, e_fne2, e_seq, e_sne, e_ta1, e_ta2, Nat.zero_add, Nat.add_zero, Bool.not_true, Bool.not_false]
      by_cases hlt : j < clampL op.len
      · have hlt' : (j : Int) < ((clampL op.len : Nat) : Int) := by omega
        simp only [hlt', decide_true, e_fd, e_nck, e_pkt, e_pkf, e_gdtt, e_gdtf, e_gdft, e_gdff, e_ift, e_iff, e_not, e_ln, e_lnT, e_cp, e_cvi, e_ex20, e_ex21, e_ex30, e_ex31, e_ex32, e_add, e_sub, e_mul, e_quo, e_rem, e_and, e_or, e_xor, e_shl, e_shr, e_eql, e_neq, e_lss, e_leq, e_gtr, e_geq, e_beq, e_bne, e_peq1, e_peq2, e_pne1, e_pne2, e_zeq1, e_zeq2, e_zne1, e_zne2, e_feq1, e_fne1, e_feq2, e_fne2, e_seq, e_sne, e_ta1, e_ta2, Nat.zero_add, Nat.add_zero, Bool.not_true, Bool.not_false]
        refine ⟨⟨by omega, by omega⟩, ?_⟩
        have ej : ((j : Int)).toNat = j := by omega
        rw [ej, add_mk, Nat.zero_add, Nat.mul_one]
        refine st1_r r3 (by simp; omega) rfl fun w4 r4 hk4 hz4 => ?_
        rw [wrap64_id (by omega) (by omega)]
        refine ⟨clampL op.len - (j + 1), by omega, j + 1, by omega, rfl, by simp, ?_, hk3.then hk4 (fun k hk (q : k = _) => by omega)⟩
        have : ((List.replicate j (238 : Int) ++ List.replicate (clampL op.len - j) 0).map U8).set j (.int .u8 238) = (List.replicate (j + 1) (238 : Int) ++ List.replicate (clampL op.len - (j + 1)) 0).map U8 := by
          rw [show clampL op.len - j = (clampL op.len - (j + 1)) + 1 by omega, List.replicate_succ, List.map_append, List.set_append, if_neg (by simp), List.length_map, List.length_replicate, Nat.sub_self, List.map_cons, List.set_cons_zero, List.replicate_succ', List.append_assoc, List.map_append]
          rfl
        rw [this] at r4
        exact r4
      · have hlt' : ¬ (j : Int) < ((clampL op.len : Nat) : Int) := by omega
        simp only [hlt', decide_false, e_fd, e_nck, e_pkt, e_pkf, e_gdtt, e_gdtf, e_gdft, e_gdff, e_ift, e_iff, e_not, e_ln, e_lnT, e_cp, e_cvi, e_ex20, e_ex21, e_ex30, e_ex31, e_ex32, e_add, e_sub, e_mul, e_quo, e_rem, e_and, e_or, e_xor, e_shl, e_shr, e_eql, e_neq, e_lss, e_leq, e_gtr, e_geq, e_beq, e_bne, e_peq1, e_peq2, e_pne1, e_pne2, e_zeq1, e_zeq2, e_zne1, e_zne2, e_feq1, e_fne1, e_feq2, e_fne2, e_seq, e_sne, e_ta1, e_ta2, Nat.zero_add, Nat.add_zero, Bool.not_true, Bool.not_false]
        have ejj : j = clampL op.len := by omega
        subst ejj
        rw [Nat.sub_self, List.replicate_zero, List.append_nil] at r3
        unfold s14_p3
        simp only [e_fd, e_nck, e_pkt, e_pkf, e_gdtt, e_gdtf, e_gdft, e_gdff, e_ift, e_iff, e_not, e_ln, e_lnT, e_cp, e_cvi, e_ex20, e_ex21, e_ex30, e_ex31, e_ex32, e_add, e_sub, e_mul, e_quo, e_rem, e_and, e_or, e_xor, e_shl, e_shr, e_eql, e_neq, e_lss, e_leq, e_gtr, e_geq, e_beq, e_bne, e_peq1, e_peq2, e_pne1, e_pne2, e_zeq1, e_zeq2, e_zne1, e_zne2, e_feq1, e_fne1, e_feq2, e_fne2, e_seq, e_sne, e_ta1, e_ta2, Nat.zero_add, Nat.add_zero, Bool.not_true, Bool.not_false]
        refine ld1_r (hk3.row' r1') rfl ?_
        have h3 := h1.kp' hk3
        have hlen : (fillerL op).length = clampL op.len := by simp [fillerL]
        have hnb : ¬ Own d m w1.heap.size := fun q => by have := h1.lt q; omega
        have rd := read_ok (L := fillerL op) (i := op.sec) (b := w1.heap.size) (cap := clampL op.len) (w := w3) (K := fun t38 w => cl Try.prog 31 #[t38] (fun t39 w => K (.tuple #[t39, .slice (some ⟨w1.heap.size, 0, none⟩) (clampL op.len) (clampL op.len)]) w) w) h3 r3 hnb fun w4 r h4 he r4 hk4 => ?_
        · rw [hlen] at rd; exact rd
        · rw [hlen] at h4 he
          refine codeOf_ok he ?_
          have hrl : (rdD s op.sec (fillerL op)).length = clampL op.len := by
            unfold rdD
            rw [hlen]
            by_cases hc : chkC s op.sec (clampL op.len : Nat) ≠ 0
            · rw [if_pos hc]; exact hlen
            · rw [if_neg hc]
              obtain ⟨_, hi0, hi1, hxl⟩ := chk0 hc
              have := (h.now (i := op.sec.toNat) (by omega)).1
              omega
          have hrb : By (rdD s op.sec (fillerL op)) := by
            unfold rdD
            rw [hlen]
            by_cases hc : chkC s op.sec (clampL op.len : Nat) ≠ 0
            · rw [if_pos hc]; intro x hx; unfold fillerL at hx; have := List.eq_of_mem_replicate hx; omega
            · rw [if_neg hc]
              obtain ⟨_, hi0, hi1, hxl⟩ := chk0 hc
              exact (h.now (i := op.sec.toNat) (by omega)).2
          refine hK w4 m _ h4 ⟨((hk1.trans hk3).none).then hk4 (fun k hk q => ?_), fun b q => .inl q⟩ ⟨hrb, .inr ⟨k1, w1.heap.size, by rw [hrl], r4, by omega, hnb⟩⟩
          rcases q with q | q
          · exact .inl q
          · omega
    · have e : (op.kind == 1) = false := by simpa using k1
      simp only [e, e_fd, e_nck, e_pkt, e_pkf, e_gdtt, e_gdtf, e_gdft, e_gdff, e_ift, e_iff, e_not, e_ln, e_lnT, e_cp, e_cvi, e_ex20, e_ex21, e_ex30, e_ex31, e_ex32, e_add, e_sub, e_mul, e_quo, e_rem, e_and, e_or, e_xor, e_shl, e_shr, e_eql, e_neq, e_lss, e_leq, e_gtr, e_geq, e_beq, e_bne, e_peq1, e_peq2, e_pne1, e_pne2, e_zeq1, e_zeq2, e_zne1, e_zne2, e_feq1, e_fne1, e_feq2, e_fne2, e_seq, e_sne, e_ta1, e_ta2, Nat.zero_add, Nat.add_zero, Bool.not_true, Bool.not_false]
      rw [if_neg k1] at hK
      have byn : By [] := fun x hx => by simp at hx
      unfold s14_p7
      simp only [e_fd, e_nck, e_pkt, e_pkf, e_gdtt, e_gdtf, e_gdft, e_gdff, e_ift, e_iff, e_not, e_ln, e_lnT, e_cp, e_cvi, e_ex20, e_ex21, e_ex30, e_ex31, e_ex32, e_add, e_sub, e_mul, e_quo, e_rem, e_and, e_or, e_xor, e_shl, e_shr, e_eql, e_neq, e_lss, e_leq, e_gtr, e_geq, e_beq, e_bne, e_peq1, e_peq2, e_pne1, e_pne2, e_zeq1, e_zeq2, e_zne1, e_zne2, e_feq1, e_fne1, e_feq2, e_fne2, e_seq, e_sne, e_ta1, e_ta2, Nat.zero_add, Nat.add_zero, Bool.not_true, Bool.not_false]
      by_cases k2 : op.kind = 2
      · have e : (op.kind == 2) = true := by simpa using k2
        simp only [e, e_fd, e_nck, e_pkt, e_pkf, e_gdtt, e_gdtf, e_gdft, e_gdff, e_ift, e_iff, e_not, e_ln, e_lnT, e_cp, e_cvi, e_ex20, e_ex21, e_ex30, e_ex31, e_ex32, e_add, e_sub, e_mul, e_quo, e_rem, e_and, e_or, e_xor, e_shl, e_shr, e_eql, e_neq, e_lss, e_leq, e_gtr, e_geq, e_beq, e_bne, e_peq1, e_peq2, e_pne1, e_pne2, e_zeq1, e_zeq2, e_zne1, e_zne2, e_feq1, e_fne1, e_feq2, e_fne2, e_seq, e_sne, e_ta1, e_ta2, Nat.zero_add, Nat.add_zero, Bool.not_true, Bool.not_false]
        rw [if_pos k2] at hK
        refine flush_ok h1 fun w2 m2 r h2 st2 he => ?_
        refine codeOf_ok he ?_
        exact hK w2 m2 _ h2 (s01.trans st2) ⟨byn, .inl ⟨k1, rfl, rfl⟩⟩
      · have e : (op.kind == 2) = false := by simpa using k2
        simp only [e, e_fd, e_nck, e_pkt, e_pkf, e_gdtt, e_gdtf, e_gdft, e_gdff, e_ift, e_iff, e_not, e_ln, e_lnT, e_cp, e_cvi, e_ex20, e_ex21, e_ex30, e_ex31, e_ex32, e_add, e_sub, e_mul, e_quo, e_rem, e_and, e_or, e_xor, e_shl, e_shr, e_eql, e_neq, e_lss, e_leq, e_gtr, e_geq, e_beq, e_bne, e_peq1, e_peq2, e_pne1, e_pne2, e_zeq1, e_zeq2, e_zne1, e_zne2, e_feq1, e_fne1, e_feq2, e_fne2, e_seq, e_sne, e_ta1, e_ta2, Nat.zero_add, Nat.add_zero, Bool.not_true, Bool.not_false]
        rw [if_neg k2] at hK
        by_cases k3 : op.kind = 3
        · have e : (op.kind == 3) = true := by simpa using k3
          simp only [e, e_fd, e_nck, e_pkt, e_pkf, e_gdtt, e_gdtf, e_gdft, e_gdff, e_ift, e_iff, e_not, e_ln, e_lnT, e_cp, e_cvi, e_ex20, e_ex21, e_ex30, e_ex31, e_ex32, e_add, e_sub, e_mul, e_quo, e_rem, e_and, e_or, e_xor, e_shl, e_shr, e_eql, e_neq, e_lss, e_leq, e_gtr, e_geq, e_beq, e_bne, e_peq1, e_peq2, e_pne1, e_pne2, e_zeq1, e_zeq2, e_zne1, e_zne2, e_feq1, e_fne1, e_feq2, e_fne2, e_seq, e_sne, e_ta1, e_ta2, Nat.zero_add, Nat.add_zero, Bool.not_true, Bool.not_false]
          rw [if_pos k3] at hK
          refine ldn_r r1' (show 5 + 3 ≤ 8 by decide) ?_
          refine crash_ok (kv := kv) (keep := op.keep) (torn := op.torn) (a := op.at_) h1 hkv1 hnp fun w2 m2 r h2 st2 he => ?_
          refine codeOf_ok he ?_
          exact hK w2 m2 _ h2 (s01.trans st2) ⟨byn, .inl ⟨k1, rfl, rfl⟩⟩
        · have e : (op.kind == 3) = false := by simpa using k3
          simp only [e, e_fd, e_nck, e_pkt, e_pkf, e_gdtt, e_gdtf, e_gdft, e_gdff, e_ift, e_iff, e_not, e_ln, e_lnT, e_cp, e_cvi, e_ex20, e_ex21, e_ex30, e_ex31, e_ex32, e_add, e_sub, e_mul, e_quo, e_rem, e_and, e_or, e_xor, e_shl, e_shr, e_eql, e_neq, e_lss, e_leq, e_gtr, e_geq, e_beq, e_bne, e_peq1, e_peq2, e_pne1, e_pne2, e_zeq1, e_zeq2, e_zne1, e_zne2, e_feq1, e_fne1, e_feq2, e_fne2, e_seq, e_sne, e_ta1, e_ta2, Nat.zero_add, Nat.add_zero, Bool.not_true, Bool.not_false]
          rw [if_neg k3] at hK
          by_cases k4 : op.kind = 4
          · have e : (op.kind == 4) = true := by simpa using k4
            simp only [e, e_fd, e_nck, e_pkt, e_pkf, e_gdtt, e_gdtf, e_gdft, e_gdff, e_ift, e_iff, e_not, e_ln, e_lnT, e_cp, e_cvi, e_ex20, e_ex21, e_ex30, e_ex31, e_ex32, e_add, e_sub, e_mul, e_quo, e_rem, e_and, e_or, e_xor, e_shl, e_shr, e_eql, e_neq, e_lss, e_leq, e_gtr, e_geq, e_beq, e_bne, e_peq1, e_peq2, e_pne1, e_pne2, e_zeq1, e_zeq2, e_zne1, e_zne2, e_feq1, e_fne1, e_feq2, e_fne2, e_seq, e_sne, e_ta1, e_ta2, Nat.zero_add, Nat.add_zero, Bool.not_true, Bool.not_false]
            rw [if_pos k4] at hK
            refine restart_ok h1 fun w2 r h2 hk2 he => ?_
            refine codeOf_ok he ?_
            exact hK w2 m _ h2 (s01.trans (Stp.of hk2 fun b _ q => .inl q)) ⟨byn, .inl ⟨k1, rfl, rfl⟩⟩
          · have e : (op.kind == 4) = false := by simpa using k4
            simp only [e, e_fd, e_nck, e_pkt, e_pkf, e_gdtt, e_gdtf, e_gdft, e_gdff, e_ift, e_iff, e_not, e_ln, e_lnT, e_cp, e_cvi, e_ex20, e_ex21, e_ex30, e_ex31, e_ex32, e_add, e_sub, e_mul, e_quo, e_rem, e_and, e_or, e_xor, e_shl, e_shr, e_eql, e_neq, e_lss, e_leq, e_gtr, e_geq, e_beq, e_bne, e_peq1, e_peq2, e_pne1, e_pne2, e_zeq1, e_zeq2, e_zne1, e_zne2, e_feq1, e_fne1, e_feq2, e_fne2, e_seq, e_sne, e_ta1, e_ta2, Nat.zero_add, Nat.add_zero, Bool.not_true, Bool.not_false]
            rw [if_neg k4] at hK
            by_cases k5 : op.kind = 5
            · have e : (op.kind == 5) = true := by simpa using k5
              simp only [e, e_fd, e_nck, e_pkt, e_pkf, e_gdtt, e_gdtf, e_gdft, e_gdff, e_ift, e_iff, e_not, e_ln, e_lnT, e_cp, e_cvi, e_ex20, e_ex21, e_ex30, e_ex31, e_ex32, e_add, e_sub, e_mul, e_quo, e_rem, e_and, e_or, e_xor, e_shl, e_shr, e_eql, e_neq, e_lss, e_leq, e_gtr, e_geq, e_beq, e_bne, e_peq1, e_peq2, e_pne1, e_pne2, e_zeq1, e_zeq2, e_zne1, e_zne2, e_feq1, e_fne1, e_feq2, e_fne2, e_seq, e_sne, e_ta1, e_ta2, Nat.zero_add, Nat.add_zero, Bool.not_true, Bool.not_false]
              rw [if_pos k5] at hK
              refine ld1_r r1' rfl ?_
              refine ldn_r r1' (show 5 + 3 ≤ 8 by decide) ?_
              refine arm_ok (kv := kv) (keep := op.keep) (after := op.after) (torn := op.torn) (a := op.at_) h1 hkv1 hkl haf fun w2 m2 r h2 st2 he => ?_
              refine codeOf_ok he ?_
              exact hK w2 m2 _ h2 (s01.trans st2) ⟨byn, .inl ⟨k1, rfl, rfl⟩⟩
            · have e : (op.kind == 5) = false := by simpa using k5
              simp only [e, e_fd, e_nck, e_pkt, e_pkf, e_gdtt, e_gdtf, e_gdft, e_gdff, e_ift, e_iff, e_not, e_ln, e_lnT, e_cp, e_cvi, e_ex20, e_ex21, e_ex30, e_ex31, e_ex32, e_add, e_sub, e_mul, e_quo, e_rem, e_and, e_or, e_xor, e_shl, e_shr, e_eql, e_neq, e_lss, e_leq, e_gtr, e_geq, e_beq, e_bne, e_peq1, e_peq2, e_pne1, e_pne2, e_zeq1, e_zeq2, e_zne1, e_zne2, e_feq1, e_fne1, e_feq2, e_fne2, e_seq, e_sne, e_ta1, e_ta2, Nat.zero_add, Nat.add_zero, Bool.not_true, Bool.not_false]
              rw [if_neg k5] at hK
              by_cases k6 : op.kind = 6
              · have e : (op.kind == 6) = true := by simpa using k6
                simp only [e, e_fd, e_nck, e_pkt, e_pkf, e_gdtt, e_gdtf, e_gdft, e_gdff, e_ift, e_iff, e_not, e_ln, e_lnT, e_cp, e_cvi, e_ex20, e_ex21, e_ex30, e_ex31, e_ex32, e_add, e_sub, e_mul, e_quo, e_rem, e_and, e_or, e_xor, e_shl, e_shr, e_eql, e_neq, e_lss, e_leq, e_gtr, e_geq, e_beq, e_bne, e_peq1, e_peq2, e_pne1, e_pne2, e_zeq1, e_zeq2, e_zne1, e_zne2, e_feq1, e_fne1, e_feq2, e_fne2, e_seq, e_sne, e_ta1, e_ta2, Nat.zero_add, Nat.add_zero, Bool.not_true, Bool.not_false]
                rw [if_pos k6] at hK
                refine disarm_ok h1 fun w2 m2 r h2 st2 he => ?_
                refine codeOf_ok he ?_
                exact hK w2 m2 _ h2 (s01.trans st2) ⟨byn, .inl ⟨k1, rfl, rfl⟩⟩
              · have e : (op.kind == 6) = false := by simpa using k6
                simp only [e, e_fd, e_nck, e_pkt, e_pkf, e_gdtt, e_gdtf, e_gdft, e_gdff, e_ift, e_iff, e_not, e_ln, e_lnT, e_cp, e_cvi, e_ex20, e_ex21, e_ex30, e_ex31, e_ex32, e_add, e_sub, e_mul, e_quo, e_rem, e_and, e_or, e_xor, e_shl, e_shr, e_eql, e_neq, e_lss, e_leq, e_gtr, e_geq, e_beq, e_bne, e_peq1, e_peq2, e_pne1, e_pne2, e_zeq1, e_zeq2, e_zne1, e_zne2, e_feq1, e_fne1, e_feq2, e_fne2, e_seq, e_sne, e_ta1, e_ta2, Nat.zero_add, Nat.add_zero, Bool.not_true, Bool.not_false]
                rw [if_neg k6] at hK
                unfold s14_p1
                exact hK w1 m _ h1 s01 ⟨byn, .inl ⟨k1, rfl, rfl⟩⟩
theorem play_ok {B : Nat} {v : Value} {op : Op} (h : Dk w d m s) (hop : OpV w B v op) (hfar : ∀ b, Own d m b → B ≤ b)
    (hK : ∀ w' m' dv, Dk w' d m' (playS s op).2.2 → Stp w w' d m m' → Dv w w' d m' dv op.kind (playS s op).2.1 → K (.tuple #[I (playS s op).1, dv]) w') : cl Try.prog 14 #[.pointer (some ⟨d, 0, none⟩), v] K w := by
  obtain ⟨dv, kv, e, hdv, hby, hkv, hkl, haf, hdb, hkb⟩ := hop
  exact play_okQ h ⟨dv, kv, e, hdv, hby, hkv, hkl, haf, fun b o c h0 e q => by have := hdb b o c h0 e; have := hfar b q; omega, fun b o c h0 e q => by have := hkb b o c h0 e; have := hfar b q; omega⟩ hK
end
end Go.Proofs.Qxb6500895a
