import Derived.Test.Qxb6500896aGreatK5
namespace Go.Proofs.Qxb6500896aGreat
open Go.Sh Go.RowKit
set_option linter.unusedVariables false
set_option linter.unusedSimpArgs false

theorem sl_take {α : Type} {f : α → List Value} {k : Nat} {w w' : World} {e : TypeId} {ob : Option Nat} {v : Value} {xs : List α} {K : Value → World → Prop} {n : Nat} {q : IntKind} (hk : ∀ x, (f x).length = k) (h : Sl f k w e ob v xs) (hn : n ≤ xs.length)
    (hK : ∀ v', Sl f k w e ob v' (xs.take n) → K v' w') : sls k v none (some (.int q (n : Nat))) K w' := by
  have hlen : (xs.take n).length = n := by rw [List.length_take]; omega
  cases ob with
  | none =>
    obtain ⟨rfl, rfl⟩ := h
    have h0 : n = 0 := by simpa using hn
    subst h0
    refine sls_mk (l := 0) (h := 0) rfl rfl ⟨by simp, by simp, by simp⟩ ?_
    exact hK _ ⟨by simp, by simp⟩
  | some b =>
    obtain ⟨cap, junk, rfl, h1, h2, h3⟩ := h
    refine sls_mk (l := 0) (h := ((n : Nat) : Int)) rfl rfl ⟨by simp, by omega, by omega⟩ ?_
    have e1 : (if cap = (0 : Int).toNat then some (⟨b, 0, none⟩ : Addr) else (some (⟨b, 0, none⟩ : Addr)).map (·.add ((0 : Int).toNat * k))) = some ⟨b, 0, none⟩ := by
      have : (0 : Int).toNat = 0 := rfl
      rw [this, Nat.zero_mul, Option.map_some, add_mk, Nat.zero_add]; simp
    rw [e1]
    refine hK _ ⟨cap, rows f (xs.drop n) ++ junk, ?_, by omega, ?_, ?_⟩
    · rw [hlen]
      have e2 : ((n : Nat) : Int).toNat - (0 : Int).toNat = n := by omega
      have e3 : cap - (0 : Int).toNat = cap := rfl
      rw [e2, e3]
    · rw [List.length_append, rows_length hk, List.length_drop, h2, hlen, ← Nat.add_mul]
      congr 1; omega
    · rw [← List.append_assoc, ← rows_append, List.take_append_drop]
      exact h3
def dueJ (J : Jr) : Jr := { J with left := if J.left = 0 then 0 else J.left - 1 }
def failN (J : Jr) (keep : Int) : Nat := J.safe + min keep.toNat (J.log.length - J.safe)
def failJ (J : Jr) (keep : Int) : Jr := { J with log := J.log.take (failN J keep), safe := failN J keep, off := true, left := 0 }
theorem tot_take (log : List (List Int)) (i : Nat) : tot (log.take i) ≤ tot log := by
  unfold tot
  rw [List.map_take]
  conv => rhs; rw [← List.take_append_drop i (log.map fun e => e.length + 6)]
  rw [List.sum_append]; omega
theorem tot_succ {log : List (List Int)} {i : Nat} (h : i < log.length) : tot (log.take (i + 1)) = tot (log.take i) + (log[i].length + 6) := by
  unfold tot
  rw [List.take_succ_eq_append_getElem h, List.map_append, List.sum_append]; simp
theorem tot_app (log : List (List Int)) (e : List Int) : tot (log ++ [e]) = tot log + (e.length + 6) := by
  unfold tot
  rw [List.map_append, List.sum_append]; simp
theorem failN_le (J : Jr) (h : J.Ok) (keep : Int) : failN J keep ≤ J.log.length := by have := h.safe; unfold failN; omega
theorem failJ_ok {J : Jr} (h : J.Ok) (keep : Int) : (failJ J keep).Ok := by
  have hl := failN_le J h keep
  have h1 := tot_take J.log (failN J keep)
  have h2 := h.len
  have h3 := h.tot
  exact ⟨by show failN J keep ≤ (J.log.take (failN J keep)).length; rw [List.length_take]; omega, by show (0 : Int) ≤ 0; omega, by show (0 : Int) ≤ _; omega, by show tot (J.log.take _) ≤ _; omega, h.cp, by show (J.log.take _).length ≤ _; rw [List.length_take]; omega⟩
section
variable {M M' S : Nat → Prop} {w w' w1 : World} {v lv sv : Value} {j : Nat} {lob : Option Nat} {J : Jr} {log : List (List Int)} {K : Value → World → Prop} {xs : List Int}
theorem Lg.take (h : Lg M w lob lv log) {n : Nat} (hn : n ≤ log.length) (hK : ∀ v', Lg M w lob v' (log.take n) → scal v' = true → K v' w') : sls 1 lv none (some (I (n : Nat))) K w' := by
  obtain ⟨evs, h1, h2, h3, h4⟩ := h
  refine sl_take one_len h1 (by omega) fun v' s' => hK v' ⟨evs.take n, s', h2, by rw [List.length_take, List.length_take]; omega, fun i a b => ?_⟩ (sl_scal s')
  rw [List.length_take] at a b
  rw [List.getElem_take, List.getElem_take]
  exact h4 i (by omega) (by omega)
theorem Lg.ln (h : Lg M w lob lv log) (hK : K (I (log.length : Nat)) w') : lnS lv K w' := by
  obtain ⟨evs, h1, h2, h3, h4⟩ := h
  rw [← h3] at hK
  cases lob with
  | none => obtain ⟨rfl, rfl⟩ := h1; exact hK
  | some b => obtain ⟨cap, junk, rfl, _⟩ := h1; exact hK
theorem fail_ok {keep : Int} (h : Jn M w j lob J) (hK : ∀ w', Jn M w' j lob (failJ J keep) → Kp (fun b => b = j) w w' → w'.heap.size = w.heap.size → K (.tuple #[]) w') : cl Tryz.prog 109 #[P j 0, I keep] K w := by
  have ok := h.ok
  have os := ok.safe
  have ol := ok.len
  obtain ⟨sv, lv, r, hs, hl⟩ := h.ex
  have fin : ∀ (n : Nat) (w1 : World), n = failN J keep → Kp Emp w w1 → w1.heap.size = w.heap.size → s109_p2 K (P j 0) (I ((n - J.safe : Nat) : Int)) w1 := by
    intro n w1 hn k1 hz1
    subst hn
    have hle := failN_le J ok keep
    have hge : J.safe ≤ failN J keep := by unfold failN; omega
    unfold s109_p2 s109_p2_d
    have kd : Kp Emp w1 (drw w1) := kp_drw
    have szd : (drw w1).heap.size = w1.heap.size := rfl
    generalize drw w1 = w2 at kd szd ⊢
    have h2 := (h.kp' k1).kp' kd
    have k2 := k1.trans kd
    have r2 := k2.row' r
    have hs2 := hs.kp' k2
    have hl2 : Lg M w2 lob lv J.log := hl.ext (Ext.same h.lt k2) k2 (fun _ q => q.elim) (fun _ _ q => q)
    try simp only [e_fd, e_nck, e_pkt, e_pkf, e_gdtt, e_gdtf, e_gdft, e_gdff, e_ift, e_iff, e_not, e_ln, e_lnT, e_cp, e_cvi, e_ex20, e_ex21, e_ex30, e_ex31, e_ex32, e_add, e_sub, e_mul, e_quo, e_rem, e_and, e_or, e_xor, e_shl, e_shr, e_eql, e_neq, e_lss, e_leq, e_gtr, e_geq, e_beq, e_bne, e_peq1, e_peq2, e_pne1, e_pne2, e_zeq1, e_zeq2, e_zne1, e_zne2, e_feq1, e_fne1, e_feq2, e_fne2, e_seq, e_sne, e_ta1, e_ta2, Nat.zero_add, Nat.add_zero, Bool.not_true, Bool.not_false]
    refine ld1_r r2 rfl ?_
    try simp only [e_fd, e_nck, e_pkt, e_pkf, e_gdtt, e_gdtf, e_gdft, e_gdff, e_ift, e_iff, e_not, e_ln, e_lnT, e_cp, e_cvi, e_ex20, e_ex21, e_ex30, e_ex31, e_ex32, e_add, e_sub, e_mul, e_quo, e_rem, e_and, e_or, e_xor, e_shl, e_shr, e_eql, e_neq, e_lss, e_leq, e_gtr, e_geq, e_beq, e_bne, e_peq1, e_peq2, e_pne1, e_pne2, e_zeq1, e_zeq2, e_zne1, e_zne2, e_feq1, e_fne1, e_feq2, e_fne2, e_seq, e_sne, e_ta1, e_ta2, Nat.zero_add, Nat.add_zero, Bool.not_true, Bool.not_false]
    refine ld1_r r2 rfl ?_
    try simp only [e_fd, e_nck, e_pkt, e_pkf, e_gdtt, e_gdtf, e_gdft, e_gdff, e_ift, e_iff, e_not, e_ln, e_lnT, e_cp, e_cvi, e_ex20, e_ex21, e_ex30, e_ex31, e_ex32, e_add, e_sub, e_mul, e_quo, e_rem, e_and, e_or, e_xor, e_shl, e_shr, e_eql, e_neq, e_lss, e_leq, e_gtr, e_geq, e_beq, e_bne, e_peq1, e_peq2, e_pne1, e_pne2, e_zeq1, e_zeq2, e_zne1, e_zne2, e_feq1, e_fne1, e_feq2, e_fne2, e_seq, e_sne, e_ta1, e_ta2, Nat.zero_add, Nat.add_zero, Bool.not_true, Bool.not_false]
    rw [wrap64_id (by omega) (by omega), show ((J.safe : Nat) : Int) + ((failN J keep - J.safe : Nat) : Int) = ((failN J keep : Nat) : Int) by omega]
    refine hl2.take hle fun lv' hl' hsc => ?_
    try simp only [e_fd, e_nck, e_pkt, e_pkf, e_gdtt, e_gdtf, e_gdft, e_gdff, e_ift, e_iff, e_not, e_ln, e_lnT, e_cp, e_cvi, e_ex20, e_ex21, e_ex30, e_ex31, e_ex32, e_add, e_sub, e_mul, e_quo, e_rem, e_and, e_or, e_xor, e_shl, e_shr, e_eql, e_neq, e_lss, e_leq, e_gtr, e_geq, e_beq, e_bne, e_peq1, e_peq2, e_pne1, e_pne2, e_zeq1, e_zeq2, e_zne1, e_zne2, e_feq1, e_fne1, e_feq2, e_fne2, e_seq, e_sne, e_ta1, e_ta2, Nat.zero_add, Nat.add_zero, Bool.not_true, Bool.not_false]
    refine jst (J := J) r2 hs2 hl2 (fun b q => by have := h.lt b q; omega) h.mj (by decide) hsc fun w3 r3 hs3 _ hM3 hk3 hz3 => ?_
    have hl3 : Lg M w3 lob lv' (J.log.take (failN J keep)) := hl'.ext (Ext.same (fun b q => by have := h.lt b q; omega) hk3) hk3 (fun b (e : b = j) _ => e ▸ h.mj) (fun b e (q : b = j) => by
      obtain ⟨evs, s1, _⟩ := hl'
      obtain ⟨l, hr⟩ := s1.row e
      exact row_ne hr r2 (by decide) q)
    unfold s109_p1
    try simp only [e_fd, e_nck, e_pkt, e_pkf, e_gdtt, e_gdtf, e_gdft, e_gdff, e_ift, e_iff, e_not, e_ln, e_lnT, e_cp, e_cvi, e_ex20, e_ex21, e_ex30, e_ex31, e_ex32, e_add, e_sub, e_mul, e_quo, e_rem, e_and, e_or, e_xor, e_shl, e_shr, e_eql, e_neq, e_lss, e_leq, e_gtr, e_geq, e_beq, e_bne, e_peq1, e_peq2, e_pne1, e_pne2, e_zeq1, e_zeq2, e_zne1, e_zne2, e_feq1, e_fne1, e_feq2, e_fne2, e_seq, e_sne, e_ta1, e_ta2, Nat.zero_add, Nat.add_zero, Bool.not_true, Bool.not_false]
    refine ld1_r r3 rfl ?_
    refine hl3.ln ?_
    have elen : (J.log.take (failN J keep)).length = failN J keep := by rw [List.length_take]; omega
    rw [elen]
    refine jst (J := { J with log := J.log.take (failN J keep) }) r3 hs3 hl3 hM3 h.mj (by decide) rfl fun w4 r4 hs4 hl4 hM4 hk4 hz4 => ?_
    try simp only [e_fd, e_nck, e_pkt, e_pkf, e_gdtt, e_gdtf, e_gdft, e_gdff, e_ift, e_iff, e_not, e_ln, e_lnT, e_cp, e_cvi, e_ex20, e_ex21, e_ex30, e_ex31, e_ex32, e_add, e_sub, e_mul, e_quo, e_rem, e_and, e_or, e_xor, e_shl, e_shr, e_eql, e_neq, e_lss, e_leq, e_gtr, e_geq, e_beq, e_bne, e_peq1, e_peq2, e_pne1, e_pne2, e_zeq1, e_zeq2, e_zne1, e_zne2, e_feq1, e_fne1, e_feq2, e_fne2, e_seq, e_sne, e_ta1, e_ta2, Nat.zero_add, Nat.add_zero, Bool.not_true, Bool.not_false]
    refine jst (J := { J with log := J.log.take (failN J keep), safe := failN J keep }) r4 hs4 hl4 hM4 h.mj (by decide) rfl fun w5 r5 hs5 hl5 hM5 hk5 hz5 => ?_
    try simp only [e_fd, e_nck, e_pkt, e_pkf, e_gdtt, e_gdtf, e_gdft, e_gdff, e_ift, e_iff, e_not, e_ln, e_lnT, e_cp, e_cvi, e_ex20, e_ex21, e_ex30, e_ex31, e_ex32, e_add, e_sub, e_mul, e_quo, e_rem, e_and, e_or, e_xor, e_shl, e_shr, e_eql, e_neq, e_lss, e_leq, e_gtr, e_geq, e_beq, e_bne, e_peq1, e_peq2, e_pne1, e_pne2, e_zeq1, e_zeq2, e_zne1, e_zne2, e_feq1, e_fne1, e_feq2, e_fne2, e_seq, e_sne, e_ta1, e_ta2, Nat.zero_add, Nat.add_zero, Bool.not_true, Bool.not_false]
    refine jst (J := { J with log := J.log.take (failN J keep), safe := failN J keep, off := true }) r5 hs5 hl5 hM5 h.mj (by decide) rfl fun w6 r6 hs6 hl6 hM6 hk6 hz6 => ?_
    refine hK w6 ⟨⟨sv, lv', r6, hs6, hl6⟩, h.mj, failJ_ok ok keep, hM6⟩ ?_ (by omega)
    exact (((k2.none.trans hk3).trans hk4).trans hk5).trans hk6
  have mid : ∀ (kk : Nat) (w1 : World), kk = keep.toNat → Kp Emp w w1 → w1.heap.size = w.heap.size → ((kk : Nat) : Int) ≤ 9223372036854775807 → s109_p5 K (P j 0) (I (kk : Nat)) w1 := by
    intro kk w1 hkk k1 hz1 hb
    unfold s109_p5 s109_p5_d
    have kd : Kp Emp w1 (drw w1) := kp_drw
    have szd : (drw w1).heap.size = w1.heap.size := rfl
    generalize drw w1 = w2 at kd szd ⊢
    have k2 := k1.trans kd
    have r2 := k2.row' r
    try simp only [e_fd, e_nck, e_pkt, e_pkf, e_gdtt, e_gdtf, e_gdft, e_gdff, e_ift, e_iff, e_not, e_ln, e_lnT, e_cp, e_cvi, e_ex20, e_ex21, e_ex30, e_ex31, e_ex32, e_add, e_sub, e_mul, e_quo, e_rem, e_and, e_or, e_xor, e_shl, e_shr, e_eql, e_neq, e_lss, e_leq, e_gtr, e_geq, e_beq, e_bne, e_peq1, e_peq2, e_pne1, e_pne2, e_zeq1, e_zeq2, e_zne1, e_zne2, e_feq1, e_fne1, e_feq2, e_fne2, e_seq, e_sne, e_ta1, e_ta2, Nat.zero_add, Nat.add_zero, Bool.not_true, Bool.not_false]
    refine ld1_r r2 rfl ?_
    refine hl.ln ?_
    try simp only [e_fd, e_nck, e_pkt, e_pkf, e_gdtt, e_gdtf, e_gdft, e_gdff, e_ift, e_iff, e_not, e_ln, e_lnT, e_cp, e_cvi, e_ex20, e_ex21, e_ex30, e_ex31, e_ex32, e_add, e_sub, e_mul, e_quo, e_rem, e_and, e_or, e_xor, e_shl, e_shr, e_eql, e_neq, e_lss, e_leq, e_gtr, e_geq, e_beq, e_bne, e_peq1, e_peq2, e_pne1, e_pne2, e_zeq1, e_zeq2, e_zne1, e_zne2, e_feq1, e_fne1, e_feq2, e_fne2, e_seq, e_sne, e_ta1, e_ta2, Nat.zero_add, Nat.add_zero, Bool.not_true, Bool.not_false]
    refine ld1_r r2 rfl ?_
    try simp only [e_fd, e_nck, e_pkt, e_pkf, e_gdtt, e_gdtf, e_gdft, e_gdff, e_ift, e_iff, e_not, e_ln, e_lnT, e_cp, e_cvi, e_ex20, e_ex21, e_ex30, e_ex31, e_ex32, e_add, e_sub, e_mul, e_quo, e_rem, e_and, e_or, e_xor, e_shl, e_shr, e_eql, e_neq, e_lss, e_leq, e_gtr, e_geq, e_beq, e_bne, e_peq1, e_peq2, e_pne1, e_pne2, e_zeq1, e_zeq2, e_zne1, e_zne2, e_feq1, e_fne1, e_feq2, e_fne2, e_seq, e_sne, e_ta1, e_ta2, Nat.zero_add, Nat.add_zero, Bool.not_true, Bool.not_false]
    rw [wrap64_id (by omega) (by omega)]
    unfold s109_p4
    by_cases hg : J.log.length - J.safe < kk
    · have e1 : ((J.log.length : Nat) : Int) - ((J.safe : Nat) : Int) < ((kk : Nat) : Int) := by omega
      simp only [e1, decide_true, e_fd, e_nck, e_pkt, e_pkf, e_gdtt, e_gdtf, e_gdft, e_gdff, e_ift, e_iff, e_not, e_ln, e_lnT, e_cp, e_cvi, e_ex20, e_ex21, e_ex30, e_ex31, e_ex32, e_add, e_sub, e_mul, e_quo, e_rem, e_and, e_or, e_xor, e_shl, e_shr, e_eql, e_neq, e_lss, e_leq, e_gtr, e_geq, e_beq, e_bne, e_peq1, e_peq2, e_pne1, e_pne2, e_zeq1, e_zeq2, e_zne1, e_zne2, e_feq1, e_fne1, e_feq2, e_fne2, e_seq, e_sne, e_ta1, e_ta2, Nat.zero_add, Nat.add_zero, Bool.not_true, Bool.not_false]
      unfold s109_p3 s109_p3_d
      have kd3 : Kp Emp w2 (drw w2) := kp_drw
      have szd3 : (drw w2).heap.size = w2.heap.size := rfl
      generalize drw w2 = w3 at kd3 szd3 ⊢
      have k3 := k2.trans kd3
      have r3 := k3.row' r
      try simp only [e_fd, e_nck, e_pkt, e_pkf, e_gdtt, e_gdtf, e_gdft, e_gdff, e_ift, e_iff, e_not, e_ln, e_lnT, e_cp, e_cvi, e_ex20, e_ex21, e_ex30, e_ex31, e_ex32, e_add, e_sub, e_mul, e_quo, e_rem, e_and, e_or, e_xor, e_shl, e_shr, e_eql, e_neq, e_lss, e_leq, e_gtr, e_geq, e_beq, e_bne, e_peq1, e_peq2, e_pne1, e_pne2, e_zeq1, e_zeq2, e_zne1, e_zne2, e_feq1, e_fne1, e_feq2, e_fne2, e_seq, e_sne, e_ta1, e_ta2, Nat.zero_add, Nat.add_zero, Bool.not_true, Bool.not_false]
      refine ld1_r r3 rfl ?_
      refine hl.ln ?_
      try simp only [e_fd, e_nck, e_pkt, e_pkf, e_gdtt, e_gdtf, e_gdft, e_gdff, e_ift, e_iff, e_not, e_ln, e_lnT, e_cp, e_cvi, e_ex20, e_ex21, e_ex30, e_ex31, e_ex32, e_add, e_sub, e_mul, e_quo, e_rem, e_and, e_or, e_xor, e_shl, e_shr, e_eql, e_neq, e_lss, e_leq, e_gtr, e_geq, e_beq, e_bne, e_peq1, e_peq2, e_pne1, e_pne2, e_zeq1, e_zeq2, e_zne1, e_zne2, e_feq1, e_fne1, e_feq2, e_fne2, e_seq, e_sne, e_ta1, e_ta2, Nat.zero_add, Nat.add_zero, Bool.not_true, Bool.not_false]
      refine ld1_r r3 rfl ?_
      try simp only [e_fd, e_nck, e_pkt, e_pkf, e_gdtt, e_gdtf, e_gdft, e_gdff, e_ift, e_iff, e_not, e_ln, e_lnT, e_cp, e_cvi, e_ex20, e_ex21, e_ex30, e_ex31, e_ex32, e_add, e_sub, e_mul, e_quo, e_rem, e_and, e_or, e_xor, e_shl, e_shr, e_eql, e_neq, e_lss, e_leq, e_gtr, e_geq, e_beq, e_bne, e_peq1, e_peq2, e_pne1, e_pne2, e_zeq1, e_zeq2, e_zne1, e_zne2, e_feq1, e_fne1, e_feq2, e_fne2, e_seq, e_sne, e_ta1, e_ta2, Nat.zero_add, Nat.add_zero, Bool.not_true, Bool.not_false]
      rw [wrap64_id (by omega) (by omega)]
      have := fin (failN J keep) w3 rfl k3 (by omega)
      rw [show ((failN J keep - J.safe : Nat) : Int) = ((J.log.length : Nat) : Int) - ((J.safe : Nat) : Int) by unfold failN; omega] at this
      exact this
    · have e1 : ¬ ((J.log.length : Nat) : Int) - ((J.safe : Nat) : Int) < ((kk : Nat) : Int) := by omega
      simp only [e1, decide_false, e_fd, e_nck, e_pkt, e_pkf, e_gdtt, e_gdtf, e_gdft, e_gdff, e_ift, e_iff, e_not, e_ln, e_lnT, e_cp, e_cvi, e_ex20, e_ex21, e_ex30, e_ex31, e_ex32, e_add, e_sub, e_mul, e_quo, e_rem, e_and, e_or, e_xor, e_shl, e_shr, e_eql, e_neq, e_lss, e_leq, e_gtr, e_geq, e_beq, e_bne, e_peq1, e_peq2, e_pne1, e_pne2, e_zeq1, e_zeq2, e_zne1, e_zne2, e_feq1, e_fne1, e_feq2, e_fne2, e_seq, e_sne, e_ta1, e_ta2, Nat.zero_add, Nat.add_zero, Bool.not_true, Bool.not_false]
      have := fin (failN J keep) w2 rfl k2 (by omega)
      rw [show ((failN J keep - J.safe : Nat) : Int) = ((kk : Nat) : Int) by unfold failN; omega] at this
      exact this
  apply c109
  unfold s109_p6
  try simp only [e_fd, e_nck, e_pkt, e_pkf, e_gdtt, e_gdtf, e_gdft, e_gdff, e_ift, e_iff, e_not, e_ln, e_lnT, e_cp, e_cvi, e_ex20, e_ex21, e_ex30, e_ex31, e_ex32, e_add, e_sub, e_mul, e_quo, e_rem, e_and, e_or, e_xor, e_shl, e_shr, e_eql, e_neq, e_lss, e_leq, e_gtr, e_geq, e_beq, e_bne, e_peq1, e_peq2, e_pne1, e_pne2, e_zeq1, e_zeq2, e_zne1, e_zne2, e_feq1, e_fne1, e_feq2, e_fne2, e_seq, e_sne, e_ta1, e_ta2, Nat.zero_add, Nat.add_zero, Bool.not_true, Bool.not_false]
  by_cases h0 : keep < 0
  · simp only [h0, decide_true, e_fd, e_nck, e_pkt, e_pkf, e_gdtt, e_gdtf, e_gdft, e_gdff, e_ift, e_iff, e_not, e_ln, e_lnT, e_cp, e_cvi, e_ex20, e_ex21, e_ex30, e_ex31, e_ex32, e_add, e_sub, e_mul, e_quo, e_rem, e_and, e_or, e_xor, e_shl, e_shr, e_eql, e_neq, e_lss, e_leq, e_gtr, e_geq, e_beq, e_bne, e_peq1, e_peq2, e_pne1, e_pne2, e_zeq1, e_zeq2, e_zne1, e_zne2, e_feq1, e_fne1, e_feq2, e_fne2, e_seq, e_sne, e_ta1, e_ta2, Nat.zero_add, Nat.add_zero, Bool.not_true, Bool.not_false]
    exact mid 0 w (by omega) (Kp.refl _ _) rfl (by omega)
  · simp only [h0, decide_false, e_fd, e_nck, e_pkt, e_pkf, e_gdtt, e_gdtf, e_gdft, e_gdff, e_ift, e_iff, e_not, e_ln, e_lnT, e_cp, e_cvi, e_ex20, e_ex21, e_ex30, e_ex31, e_ex32, e_add, e_sub, e_mul, e_quo, e_rem, e_and, e_or, e_xor, e_shl, e_shr, e_eql, e_neq, e_lss, e_leq, e_gtr, e_geq, e_beq, e_bne, e_peq1, e_peq2, e_pne1, e_pne2, e_zeq1, e_zeq2, e_zne1, e_zne2, e_feq1, e_fne1, e_feq2, e_fne2, e_seq, e_sne, e_ta1, e_ta2, Nat.zero_add, Nat.add_zero, Bool.not_true, Bool.not_false]
    by_cases hbig : keep ≤ 9223372036854775807
    · have := mid keep.toNat w rfl (Kp.refl _ _) rfl (by omega)
      rw [Int.toNat_of_nonneg (by omega)] at this
      exact this
    · have hb : ((keep.toNat : Nat) : Int) = keep := Int.toNat_of_nonneg (by omega)
      unfold s109_p5 s109_p5_d
      have kd : Kp Emp w (drw w) := kp_drw
      have szd : (drw w).heap.size = w.heap.size := rfl
      generalize drw w = w2 at kd szd ⊢
      have r2 := kd.row' r
      try simp only [e_fd, e_nck, e_pkt, e_pkf, e_gdtt, e_gdtf, e_gdft, e_gdff, e_ift, e_iff, e_not, e_ln, e_lnT, e_cp, e_cvi, e_ex20, e_ex21, e_ex30, e_ex31, e_ex32, e_add, e_sub, e_mul, e_quo, e_rem, e_and, e_or, e_xor, e_shl, e_shr, e_eql, e_neq, e_lss, e_leq, e_gtr, e_geq, e_beq, e_bne, e_peq1, e_peq2, e_pne1, e_pne2, e_zeq1, e_zeq2, e_zne1, e_zne2, e_feq1, e_fne1, e_feq2, e_fne2, e_seq, e_sne, e_ta1, e_ta2, Nat.zero_add, Nat.add_zero, Bool.not_true, Bool.not_false]
      refine ld1_r r2 rfl ?_
      refine hl.ln ?_
      try simp only [e_fd, e_nck, e_pkt, e_pkf, e_gdtt, e_gdtf, e_gdft, e_gdff, e_ift, e_iff, e_not, e_ln, e_lnT, e_cp, e_cvi, e_ex20, e_ex21, e_ex30, e_ex31, e_ex32, e_add, e_sub, e_mul, e_quo, e_rem, e_and, e_or, e_xor, e_shl, e_shr, e_eql, e_neq, e_lss, e_leq, e_gtr, e_geq, e_beq, e_bne, e_peq1, e_peq2, e_pne1, e_pne2, e_zeq1, e_zeq2, e_zne1, e_zne2, e_feq1, e_fne1, e_feq2, e_fne2, e_seq, e_sne, e_ta1, e_ta2, Nat.zero_add, Nat.add_zero, Bool.not_true, Bool.not_false]
      refine ld1_r r2 rfl ?_
      try simp only [e_fd, e_nck, e_pkt, e_pkf, e_gdtt, e_gdtf, e_gdft, e_gdff, e_ift, e_iff, e_not, e_ln, e_lnT, e_cp, e_cvi, e_ex20, e_ex21, e_ex30, e_ex31, e_ex32, e_add, e_sub, e_mul, e_quo, e_rem, e_and, e_or, e_xor, e_shl, e_shr, e_eql, e_neq, e_lss, e_leq, e_gtr, e_geq, e_beq, e_bne, e_peq1, e_peq2, e_pne1, e_pne2, e_zeq1, e_zeq2, e_zne1, e_zne2, e_feq1, e_fne1, e_feq2, e_fne2, e_seq, e_sne, e_ta1, e_ta2, Nat.zero_add, Nat.add_zero, Bool.not_true, Bool.not_false]
      rw [wrap64_id (by omega) (by omega)]
      unfold s109_p4
      have e1 : ((J.log.length : Nat) : Int) - ((J.safe : Nat) : Int) < keep := by omega
      simp only [e1, decide_true, e_fd, e_nck, e_pkt, e_pkf, e_gdtt, e_gdtf, e_gdft, e_gdff, e_ift, e_iff, e_not, e_ln, e_lnT, e_cp, e_cvi, e_ex20, e_ex21, e_ex30, e_ex31, e_ex32, e_add, e_sub, e_mul, e_quo, e_rem, e_and, e_or, e_xor, e_shl, e_shr, e_eql, e_neq, e_lss, e_leq, e_gtr, e_geq, e_beq, e_bne, e_peq1, e_peq2, e_pne1, e_pne2, e_zeq1, e_zeq2, e_zne1, e_zne2, e_feq1, e_fne1, e_feq2, e_fne2, e_seq, e_sne, e_ta1, e_ta2, Nat.zero_add, Nat.add_zero, Bool.not_true, Bool.not_false]
      unfold s109_p3 s109_p3_d
      have kd3 : Kp Emp w2 (drw w2) := kp_drw
      have szd3 : (drw w2).heap.size = w2.heap.size := rfl
      generalize drw w2 = w3 at kd3 szd3 ⊢
      have k3 := kd.trans kd3
      have r3 := k3.row' r
      try simp only [e_fd, e_nck, e_pkt, e_pkf, e_gdtt, e_gdtf, e_gdft, e_gdff, e_ift, e_iff, e_not, e_ln, e_lnT, e_cp, e_cvi, e_ex20, e_ex21, e_ex30, e_ex31, e_ex32, e_add, e_sub, e_mul, e_quo, e_rem, e_and, e_or, e_xor, e_shl, e_shr, e_eql, e_neq, e_lss, e_leq, e_gtr, e_geq, e_beq, e_bne, e_peq1, e_peq2, e_pne1, e_pne2, e_zeq1, e_zeq2, e_zne1, e_zne2, e_feq1, e_fne1, e_feq2, e_fne2, e_seq, e_sne, e_ta1, e_ta2, Nat.zero_add, Nat.add_zero, Bool.not_true, Bool.not_false]
      refine ld1_r r3 rfl ?_
      refine hl.ln ?_
      try simp only [e_fd, e_nck, e_pkt, e_pkf, e_gdtt, e_gdtf, e_gdft, e_gdff, e_ift, e_iff, e_not, e_ln, e_lnT, e_cp, e_cvi, e_ex20, e_ex21, e_ex30, e_ex31, e_ex32, e_add, e_sub, e_mul, e_quo, e_rem, e_and, e_or, e_xor, e_shl, e_shr, e_eql, e_neq, e_lss, e_leq, e_gtr, e_geq, e_beq, e_bne, e_peq1, e_peq2, e_pne1, e_pne2, e_zeq1, e_zeq2, e_zne1, e_zne2, e_feq1, e_fne1, e_feq2, e_fne2, e_seq, e_sne, e_ta1, e_ta2, Nat.zero_add, Nat.add_zero, Bool.not_true, Bool.not_false]
      refine ld1_r r3 rfl ?_
      try simp only [e_fd, e_nck, e_pkt, e_pkf, e_gdtt, e_gdtf, e_gdft, e_gdff, e_ift, e_iff, e_not, e_ln, e_lnT, e_cp, e_cvi, e_ex20, e_ex21, e_ex30, e_ex31, e_ex32, e_add, e_sub, e_mul, e_quo, e_rem, e_and, e_or, e_xor, e_shl, e_shr, e_eql, e_neq, e_lss, e_leq, e_gtr, e_geq, e_beq, e_bne, e_peq1, e_peq2, e_pne1, e_pne2, e_zeq1, e_zeq2, e_zne1, e_zne2, e_feq1, e_fne1, e_feq2, e_fne2, e_seq, e_sne, e_ta1, e_ta2, Nat.zero_add, Nat.add_zero, Bool.not_true, Bool.not_false]
      rw [wrap64_id (by omega) (by omega)]
      have := fin (failN J keep) w3 rfl k3 (by omega)
      rw [show ((failN J keep - J.safe : Nat) : Int) = ((J.log.length : Nat) : Int) - ((J.safe : Nat) : Int) by unfold failN; omega] at this
      exact this
def roomR (J : Jr) : Int := let r := J.cp - 6 - (tot J.log : Nat); let r := if J.mr < r then J.mr else r; if r < 0 then 0 else r
theorem room_ok (h : Jn M w j lob J) (hK : K (I (roomR J)) w) : cl Tryz.prog 48 #[P j 0] K w := by
  have ok := h.ok
  have ot := ok.tot
  have ol := ok.len
  obtain ⟨c0, c1⟩ := ok.cp
  obtain ⟨sv, lv, r, hs, evs, h1, h2, h3, h4⟩ := h.ex
  apply c48
  unfold s48_p6
  try simp only [e_fd, e_nck, e_pkt, e_pkf, e_gdtt, e_gdtf, e_gdft, e_gdff, e_ift, e_iff, e_not, e_ln, e_lnT, e_cp, e_cvi, e_ex20, e_ex21, e_ex30, e_ex31, e_ex32, e_add, e_sub, e_mul, e_quo, e_rem, e_and, e_or, e_xor, e_shl, e_shr, e_eql, e_neq, e_lss, e_leq, e_gtr, e_geq, e_beq, e_bne, e_peq1, e_peq2, e_pne1, e_pne2, e_zeq1, e_zeq2, e_zne1, e_zne2, e_feq1, e_fne1, e_feq2, e_fne2, e_seq, e_sne, e_ta1, e_ta2, Nat.zero_add, Nat.add_zero, Bool.not_true, Bool.not_false]
  refine ld1_r r rfl ?_
  try simp only [e_fd, e_nck, e_pkt, e_pkf, e_gdtt, e_gdtf, e_gdft, e_gdff, e_ift, e_iff, e_not, e_ln, e_lnT, e_cp, e_cvi, e_ex20, e_ex21, e_ex30, e_ex31, e_ex32, e_add, e_sub, e_mul, e_quo, e_rem, e_and, e_or, e_xor, e_shl, e_shr, e_eql, e_neq, e_lss, e_leq, e_gtr, e_geq, e_beq, e_bne, e_peq1, e_peq2, e_pne1, e_pne2, e_zeq1, e_zeq2, e_zne1, e_zne2, e_feq1, e_fne1, e_feq2, e_fne2, e_seq, e_sne, e_ta1, e_ta2, Nat.zero_add, Nat.add_zero, Bool.not_true, Bool.not_false]
  refine ld1_r r rfl ?_
  refine h1.ln ?_
  rw [wrap64_id (by omega) (by omega)]
  unfold s48_p5
  refine loop_n evs.length (fun i l w' => w' = w ∧ l = [P j 0, I (J.cp - 6 - ((tot (J.log.take i) : Nat) : Int)), lv, I (evs.length : Nat), I (i : Nat)]) ⟨rfl, by simp [tot]⟩ ?_ ?_
  · rintro i l w1 hi ⟨rfl, rfl⟩ B hB
    rw [s48_p5_Fe]
    unfold s48_p4
    simp only [dlt hi, e_fd, e_nck, e_pkt, e_pkf, e_gdtt, e_gdtf, e_gdft, e_gdff, e_ift, e_iff, e_not, e_ln, e_lnT, e_cp, e_cvi, e_ex20, e_ex21, e_ex30, e_ex31, e_ex32, e_add, e_sub, e_mul, e_quo, e_rem, e_and, e_or, e_xor, e_shl, e_shr, e_eql, e_neq, e_lss, e_leq, e_gtr, e_geq, e_beq, e_bne, e_peq1, e_peq2, e_pne1, e_pne2, e_zeq1, e_zeq2, e_zne1, e_zne2, e_feq1, e_fne1, e_feq2, e_fne2, e_seq, e_sne, e_ta1, e_ta2, Nat.zero_add, Nat.add_zero, Bool.not_true, Bool.not_false]
    have hi2 : i < J.log.length := by omega
    refine (h1.ar (F := fun _ => True) one_len (by omega) (fun _ _ => trivial)).ix hi fun b o _ hc => ?_
    refine hc.ld0 rfl ?_
    have he := h4 i hi hi2
    refine he.ln ?_
    try simp only [e_fd, e_nck, e_pkt, e_pkf, e_gdtt, e_gdtf, e_gdft, e_gdff, e_ift, e_iff, e_not, e_ln, e_lnT, e_cp, e_cvi, e_ex20, e_ex21, e_ex30, e_ex31, e_ex32, e_add, e_sub, e_mul, e_quo, e_rem, e_and, e_or, e_xor, e_shl, e_shr, e_eql, e_neq, e_lss, e_leq, e_gtr, e_geq, e_beq, e_bne, e_peq1, e_peq2, e_pne1, e_pne2, e_zeq1, e_zeq2, e_zne1, e_zne2, e_feq1, e_fne1, e_feq2, e_fne2, e_seq, e_sne, e_ta1, e_ta2, Nat.zero_add, Nat.add_zero, Bool.not_true, Bool.not_false]
    have e1 := tot_succ hi2
    have e2 := tot_take J.log (i + 1)
    rw [wrap64_id (n := ((J.log[i].length : Nat) : Int) + 6) (by omega) (by omega), wrap64_id (n := J.cp - 6 - ((tot (J.log.take i) : Nat) : Int) - (((J.log[i].length : Nat) : Int) + 6)) (by omega) (by omega), inc i (by omega)]
    refine hB _ _ ⟨rfl, ?_⟩
    rw [e1, show J.cp - 6 - ((tot (J.log.take i) : Nat) : Int) - (((J.log[i].length : Nat) : Int) + 6) = J.cp - 6 - ((tot (J.log.take i) + (J.log[i].length + 6) : Nat) : Int) by omega]
  · rintro l w1 ⟨rfl, rfl⟩ B
    rw [s48_p5_Fe]
    unfold s48_p4
    simp only [dnlt, e_fd, e_nck, e_pkt, e_pkf, e_gdtt, e_gdtf, e_gdft, e_gdff, e_ift, e_iff, e_not, e_ln, e_lnT, e_cp, e_cvi, e_ex20, e_ex21, e_ex30, e_ex31, e_ex32, e_add, e_sub, e_mul, e_quo, e_rem, e_and, e_or, e_xor, e_shl, e_shr, e_eql, e_neq, e_lss, e_leq, e_gtr, e_geq, e_beq, e_bne, e_peq1, e_peq2, e_pne1, e_pne2, e_zeq1, e_zeq2, e_zne1, e_zne2, e_feq1, e_fne1, e_feq2, e_fne2, e_seq, e_sne, e_ta1, e_ta2, Nat.zero_add, Nat.add_zero, Bool.not_true, Bool.not_false]
    rw [h3, List.take_length]
    unfold s48_p3
    try simp only [e_fd, e_nck, e_pkt, e_pkf, e_gdtt, e_gdtf, e_gdft, e_gdff, e_ift, e_iff, e_not, e_ln, e_lnT, e_cp, e_cvi, e_ex20, e_ex21, e_ex30, e_ex31, e_ex32, e_add, e_sub, e_mul, e_quo, e_rem, e_and, e_or, e_xor, e_shl, e_shr, e_eql, e_neq, e_lss, e_leq, e_gtr, e_geq, e_beq, e_bne, e_peq1, e_peq2, e_pne1, e_pne2, e_zeq1, e_zeq2, e_zne1, e_zne2, e_feq1, e_fne1, e_feq2, e_fne2, e_seq, e_sne, e_ta1, e_ta2, Nat.zero_add, Nat.add_zero, Bool.not_true, Bool.not_false]
    refine ld1_r r rfl ?_
    try simp only [e_fd, e_nck, e_pkt, e_pkf, e_gdtt, e_gdtf, e_gdft, e_gdff, e_ift, e_iff, e_not, e_ln, e_lnT, e_cp, e_cvi, e_ex20, e_ex21, e_ex30, e_ex31, e_ex32, e_add, e_sub, e_mul, e_quo, e_rem, e_and, e_or, e_xor, e_shl, e_shr, e_eql, e_neq, e_lss, e_leq, e_gtr, e_geq, e_beq, e_bne, e_peq1, e_peq2, e_pne1, e_pne2, e_zeq1, e_zeq2, e_zne1, e_zne2, e_feq1, e_fne1, e_feq2, e_fne2, e_seq, e_sne, e_ta1, e_ta2, Nat.zero_add, Nat.add_zero, Bool.not_true, Bool.not_false]
    unfold roomR at hK
    have tail : ∀ x : Int, K (I (if x < 0 then 0 else x)) w1 → s48_p2 K (I x) w1 := by
      intro x hx
      unfold s48_p2 s48_p1
      try simp only [e_fd, e_nck, e_pkt, e_pkf, e_gdtt, e_gdtf, e_gdft, e_gdff, e_ift, e_iff, e_not, e_ln, e_lnT, e_cp, e_cvi, e_ex20, e_ex21, e_ex30, e_ex31, e_ex32, e_add, e_sub, e_mul, e_quo, e_rem, e_and, e_or, e_xor, e_shl, e_shr, e_eql, e_neq, e_lss, e_leq, e_gtr, e_geq, e_beq, e_bne, e_peq1, e_peq2, e_pne1, e_pne2, e_zeq1, e_zeq2, e_zne1, e_zne2, e_feq1, e_fne1, e_feq2, e_fne2, e_seq, e_sne, e_ta1, e_ta2, Nat.zero_add, Nat.add_zero, Bool.not_true, Bool.not_false]
      by_cases h0 : x < 0
      · simp only [h0, decide_true, e_fd, e_nck, e_pkt, e_pkf, e_gdtt, e_gdtf, e_gdft, e_gdff, e_ift, e_iff, e_not, e_ln, e_lnT, e_cp, e_cvi, e_ex20, e_ex21, e_ex30, e_ex31, e_ex32, e_add, e_sub, e_mul, e_quo, e_rem, e_and, e_or, e_xor, e_shl, e_shr, e_eql, e_neq, e_lss, e_leq, e_gtr, e_geq, e_beq, e_bne, e_peq1, e_peq2, e_pne1, e_pne2, e_zeq1, e_zeq2, e_zne1, e_zne2, e_feq1, e_fne1, e_feq2, e_fne2, e_seq, e_sne, e_ta1, e_ta2, Nat.zero_add, Nat.add_zero, Bool.not_true, Bool.not_false]
        rw [if_pos h0] at hx; exact hx
      · simp only [h0, decide_false, e_fd, e_nck, e_pkt, e_pkf, e_gdtt, e_gdtf, e_gdft, e_gdff, e_ift, e_iff, e_not, e_ln, e_lnT, e_cp, e_cvi, e_ex20, e_ex21, e_ex30, e_ex31, e_ex32, e_add, e_sub, e_mul, e_quo, e_rem, e_and, e_or, e_xor, e_shl, e_shr, e_eql, e_neq, e_lss, e_leq, e_gtr, e_geq, e_beq, e_bne, e_peq1, e_peq2, e_pne1, e_pne2, e_zeq1, e_zeq2, e_zne1, e_zne2, e_feq1, e_fne1, e_feq2, e_fne2, e_seq, e_sne, e_ta1, e_ta2, Nat.zero_add, Nat.add_zero, Bool.not_true, Bool.not_false]
        rw [if_neg h0] at hx; exact hx
    by_cases hm : J.mr < J.cp - 6 - ((tot J.log : Nat) : Int)
    · simp only [hm, decide_true, e_fd, e_nck, e_pkt, e_pkf, e_gdtt, e_gdtf, e_gdft, e_gdff, e_ift, e_iff, e_not, e_ln, e_lnT, e_cp, e_cvi, e_ex20, e_ex21, e_ex30, e_ex31, e_ex32, e_add, e_sub, e_mul, e_quo, e_rem, e_and, e_or, e_xor, e_shl, e_shr, e_eql, e_neq, e_lss, e_leq, e_gtr, e_geq, e_beq, e_bne, e_peq1, e_peq2, e_pne1, e_pne2, e_zeq1, e_zeq2, e_zne1, e_zne2, e_feq1, e_fne1, e_feq2, e_fne2, e_seq, e_sne, e_ta1, e_ta2, Nat.zero_add, Nat.add_zero, Bool.not_true, Bool.not_false]
      refine ld1_r r rfl ?_
      refine tail _ ?_
      simp only [hm, if_true] at hK
      exact hK
    · simp only [hm, decide_false, e_fd, e_nck, e_pkt, e_pkf, e_gdtt, e_gdtf, e_gdft, e_gdff, e_ift, e_iff, e_not, e_ln, e_lnT, e_cp, e_cvi, e_ex20, e_ex21, e_ex30, e_ex31, e_ex32, e_add, e_sub, e_mul, e_quo, e_rem, e_and, e_or, e_xor, e_shl, e_shr, e_eql, e_neq, e_lss, e_leq, e_gtr, e_geq, e_beq, e_bne, e_peq1, e_peq2, e_pne1, e_pne2, e_zeq1, e_zeq2, e_zne1, e_zne2, e_feq1, e_fne1, e_feq2, e_fne2, e_seq, e_sne, e_ta1, e_ta2, Nat.zero_add, Nat.add_zero, Bool.not_true, Bool.not_false]
      refine tail _ ?_
      simp only [hm, if_false] at hK
      exact hK
end
end Go.Proofs.Qxb6500896aGreat
