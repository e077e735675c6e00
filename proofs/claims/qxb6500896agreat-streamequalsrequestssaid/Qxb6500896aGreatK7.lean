import Derived.Test.Qxb6500896aGreatK6
namespace Go.Proofs.Qxb6500896aGreat
open Go.Sh Go.RowKit
set_option linter.unusedVariables false
set_option linter.unusedSimpArgs false

def armJ (J : Jr) (after keep : Int) : Jr := if 1 ≤ after ∧ J.off = false then { J with left := after, keep := keep } else { J with left := 0, keep := 0 }
/-- what an append does; its code -/
def appJ (J : Jr) (rec : List Int) : Jr × Int :=
  if J.off then (J, 19) else if J.mr < (rec.length : Nat) then (J, 18) else if roomR J < (rec.length : Nat) then (J, 17)
  else if J.left = 1 then (failJ (dueJ { J with log := J.log ++ [rec] }) J.keep, 19) else (dueJ { J with log := J.log ++ [rec] }, 0)
def comJ (J : Jr) : Jr × Int :=
  if J.off then (J, 19) else if J.left = 1 then (failJ (dueJ J) J.keep, 19) else ({ dueJ J with safe := J.log.length }, 0)
def snapJ (J : Jr) (st : List Int) : Jr × Int :=
  if J.off then (J, 19) else if J.ms < (st.length : Nat) then (J, 18)
  else if J.left = 1 then (if J.keep.tmod 2 = 1 then (failJ { dueJ J with has := true, snap := st, log := [], safe := 0 } J.keep, 19) else (failJ (dueJ J) J.keep, 19))
  else ({ dueJ J with has := true, snap := st, log := [], safe := 0 }, 0)
theorem len_tot (log : List (List Int)) : log.length * 6 ≤ tot log := by
  unfold tot
  induction log with
  | nil => simp
  | cons a l ih => simp only [List.map_cons, List.sum_cons, List.length_cons]; omega
theorem fill_one {z v : Value} (hv : scal v = true) : fillL (zrep [z] (1 * [z].length)) [(some (0, 1), v)] = some [v] := by
  have e : v.cells.toList = [v] := by rw [scal_cells hv]
  simp only [fillL, e]
  rfl
theorem room_tot {J : Jr} {n : Nat} (h0 : 0 < n) (h : ¬ roomR J < ((n : Nat) : Int)) : ((tot J.log + (n + 6) : Nat) : Int) ≤ J.cp := by
  unfold roomR at h
  simp only at h
  split at h <;> split at h <;> omega
section
variable {M M' S : Nat → Prop} {w w' w1 : World} {v lv sv : Value} {j : Nat} {lob : Option Nat} {J : Jr} {log : List (List Int)} {K : Value → World → Prop} {xs : List Int}
theorem restart_ok (h : Jn M w j lob J) (hK : ∀ w', Jn M w' j lob { J with off := false } → Kp (fun b => b = j) w w' → w'.heap.size = w.heap.size → K (.tuple #[]) w') : cl Tryz.prog 110 #[P j 0] K w := by
  obtain ⟨sv, lv, r, hs, hl⟩ := h.ex
  apply c110
  unfold s110_p1
  try simp only [e_fd, e_nck, e_pkt, e_pkf, e_gdtt, e_gdtf, e_gdft, e_gdff, e_ift, e_iff, e_not, e_ln, e_lnT, e_cp, e_cvi, e_ex20, e_ex21, e_ex30, e_ex31, e_ex32, e_add, e_sub, e_mul, e_quo, e_rem, e_and, e_or, e_xor, e_shl, e_shr, e_eql, e_neq, e_lss, e_leq, e_gtr, e_geq, e_beq, e_bne, e_peq1, e_peq2, e_pne1, e_pne2, e_zeq1, e_zeq2, e_zne1, e_zne2, e_feq1, e_fne1, e_feq2, e_fne2, e_seq, e_sne, e_ta1, e_ta2, Nat.zero_add, Nat.add_zero, Bool.not_true, Bool.not_false]
  refine jst r hs hl h.lt h.mj (by decide) rfl fun w1 r1 hs1 hl1 hM1 hk1 hz1 => ?_
  exact hK w1 ⟨⟨sv, lv, r1, hs1, hl1⟩, h.mj, ⟨h.ok.safe, h.ok.l0, h.ok.l1, h.ok.tot, h.ok.cp, h.ok.len⟩, hM1⟩ hk1 hz1
theorem arm_ok {after keep : Int} (ha : after ≤ 9223372036854775807) (h : Jn M w j lob J) (hK : ∀ w', Jn M w' j lob (armJ J after keep) → Kp (fun b => b = j) w w' → w'.heap.size = w.heap.size → K (.tuple #[]) w') : cl Tryz.prog 32 #[P j 0, I after, I keep] K w := by
  obtain ⟨sv, lv, r, hs, hl⟩ := h.ex
  have ok := h.ok
  apply c32
  unfold s32_p1
  try simp only [e_fd, e_nck, e_pkt, e_pkf, e_gdtt, e_gdtf, e_gdft, e_gdff, e_ift, e_iff, e_not, e_ln, e_lnT, e_cp, e_cvi, e_ex20, e_ex21, e_ex30, e_ex31, e_ex32, e_add, e_sub, e_mul, e_quo, e_rem, e_and, e_or, e_xor, e_shl, e_shr, e_eql, e_neq, e_lss, e_leq, e_gtr, e_geq, e_beq, e_bne, e_peq1, e_peq2, e_pne1, e_pne2, e_zeq1, e_zeq2, e_zne1, e_zne2, e_feq1, e_fne1, e_feq2, e_fne2, e_seq, e_sne, e_ta1, e_ta2, Nat.zero_add, Nat.add_zero, Bool.not_true, Bool.not_false]
  refine jst r hs hl h.lt h.mj (by decide) rfl fun w1 r1 hs1 hl1 hM1 hk1 hz1 => ?_
  try simp only [e_fd, e_nck, e_pkt, e_pkf, e_gdtt, e_gdtf, e_gdft, e_gdff, e_ift, e_iff, e_not, e_ln, e_lnT, e_cp, e_cvi, e_ex20, e_ex21, e_ex30, e_ex31, e_ex32, e_add, e_sub, e_mul, e_quo, e_rem, e_and, e_or, e_xor, e_shl, e_shr, e_eql, e_neq, e_lss, e_leq, e_gtr, e_geq, e_beq, e_bne, e_peq1, e_peq2, e_pne1, e_pne2, e_zeq1, e_zeq2, e_zne1, e_zne2, e_feq1, e_fne1, e_feq2, e_fne2, e_seq, e_sne, e_ta1, e_ta2, Nat.zero_add, Nat.add_zero, Bool.not_true, Bool.not_false]
  refine jst (J := { J with left := 0 }) r1 hs1 hl1 hM1 h.mj (by decide) rfl fun w2 r2 hs2 hl2 hM2 hk2 hz2 => ?_
  have k2 := hk1.trans hk2
  try simp only [e_fd, e_nck, e_pkt, e_pkf, e_gdtt, e_gdtf, e_gdft, e_gdff, e_ift, e_iff, e_not, e_ln, e_lnT, e_cp, e_cvi, e_ex20, e_ex21, e_ex30, e_ex31, e_ex32, e_add, e_sub, e_mul, e_quo, e_rem, e_and, e_or, e_xor, e_shl, e_shr, e_eql, e_neq, e_lss, e_leq, e_gtr, e_geq, e_beq, e_bne, e_peq1, e_peq2, e_pne1, e_pne2, e_zeq1, e_zeq2, e_zne1, e_zne2, e_feq1, e_fne1, e_feq2, e_fne2, e_seq, e_sne, e_ta1, e_ta2, Nat.zero_add, Nat.add_zero, Bool.not_true, Bool.not_false]
  by_cases h1 : 1 ≤ after
  · simp only [h1, decide_true, e_fd, e_nck, e_pkt, e_pkf, e_gdtt, e_gdtf, e_gdft, e_gdff, e_ift, e_iff, e_not, e_ln, e_lnT, e_cp, e_cvi, e_ex20, e_ex21, e_ex30, e_ex31, e_ex32, e_add, e_sub, e_mul, e_quo, e_rem, e_and, e_or, e_xor, e_shl, e_shr, e_eql, e_neq, e_lss, e_leq, e_gtr, e_geq, e_beq, e_bne, e_peq1, e_peq2, e_pne1, e_pne2, e_zeq1, e_zeq2, e_zne1, e_zne2, e_feq1, e_fne1, e_feq2, e_fne2, e_seq, e_sne, e_ta1, e_ta2, Nat.zero_add, Nat.add_zero, Bool.not_true, Bool.not_false]
    refine ld1_r r2 rfl ?_
    cases ho : J.off with
    | false =>
      simp only [Bool.not_false, e_fd, e_nck, e_pkt, e_pkf, e_gdtt, e_gdtf, e_gdft, e_gdff, e_ift, e_iff, e_not, e_ln, e_lnT, e_cp, e_cvi, e_ex20, e_ex21, e_ex30, e_ex31, e_ex32, e_add, e_sub, e_mul, e_quo, e_rem, e_and, e_or, e_xor, e_shl, e_shr, e_eql, e_neq, e_lss, e_leq, e_gtr, e_geq, e_beq, e_bne, e_peq1, e_peq2, e_pne1, e_pne2, e_zeq1, e_zeq2, e_zne1, e_zne2, e_feq1, e_fne1, e_feq2, e_fne2, e_seq, e_sne, e_ta1, e_ta2, Nat.zero_add, Nat.add_zero, Bool.not_true, Bool.not_false]
      refine jst (J := { J with left := 0, keep := 0 }) (r2) hs2 hl2 hM2 h.mj (by decide) rfl fun w3 r3 hs3 hl3 hM3 hk3 hz3 => ?_
      try simp only [e_fd, e_nck, e_pkt, e_pkf, e_gdtt, e_gdtf, e_gdft, e_gdff, e_ift, e_iff, e_not, e_ln, e_lnT, e_cp, e_cvi, e_ex20, e_ex21, e_ex30, e_ex31, e_ex32, e_add, e_sub, e_mul, e_quo, e_rem, e_and, e_or, e_xor, e_shl, e_shr, e_eql, e_neq, e_lss, e_leq, e_gtr, e_geq, e_beq, e_bne, e_peq1, e_peq2, e_pne1, e_pne2, e_zeq1, e_zeq2, e_zne1, e_zne2, e_feq1, e_fne1, e_feq2, e_fne2, e_seq, e_sne, e_ta1, e_ta2, Nat.zero_add, Nat.add_zero, Bool.not_true, Bool.not_false]
      refine jst (J := { J with left := after, keep := 0 }) r3 hs3 hl3 hM3 h.mj (by decide) rfl fun w4 r4 hs4 hl4 hM4 hk4 hz4 => ?_
      refine hK w4 ?_ ((k2.trans hk3).trans hk4) (by omega)
      rw [armJ, if_pos ⟨h1, ho⟩]
      exact ⟨⟨sv, lv, r4, hs4, hl4⟩, h.mj, ⟨ok.safe, by show 0 ≤ after; omega, ha, ok.tot, ok.cp, ok.len⟩, hM4⟩
    | true =>
      simp only [Bool.not_true, e_fd, e_nck, e_pkt, e_pkf, e_gdtt, e_gdtf, e_gdft, e_gdff, e_ift, e_iff, e_not, e_ln, e_lnT, e_cp, e_cvi, e_ex20, e_ex21, e_ex30, e_ex31, e_ex32, e_add, e_sub, e_mul, e_quo, e_rem, e_and, e_or, e_xor, e_shl, e_shr, e_eql, e_neq, e_lss, e_leq, e_gtr, e_geq, e_beq, e_bne, e_peq1, e_peq2, e_pne1, e_pne2, e_zeq1, e_zeq2, e_zne1, e_zne2, e_feq1, e_fne1, e_feq2, e_fne2, e_seq, e_sne, e_ta1, e_ta2, Nat.zero_add, Nat.add_zero, Bool.not_true, Bool.not_false]
      refine hK w2 ?_ k2 (by omega)
      rw [armJ, if_neg (by rw [ho]; simp)]
      exact ⟨⟨sv, lv, r2, hs2, hl2⟩, h.mj, ⟨ok.safe, by show (0 : Int) ≤ 0; omega, by show (0 : Int) ≤ _; omega, ok.tot, ok.cp, ok.len⟩, hM2⟩
  · simp only [h1, decide_false, e_fd, e_nck, e_pkt, e_pkf, e_gdtt, e_gdtf, e_gdft, e_gdff, e_ift, e_iff, e_not, e_ln, e_lnT, e_cp, e_cvi, e_ex20, e_ex21, e_ex30, e_ex31, e_ex32, e_add, e_sub, e_mul, e_quo, e_rem, e_and, e_or, e_xor, e_shl, e_shr, e_eql, e_neq, e_lss, e_leq, e_gtr, e_geq, e_beq, e_bne, e_peq1, e_peq2, e_pne1, e_pne2, e_zeq1, e_zeq2, e_zne1, e_zne2, e_feq1, e_fne1, e_feq2, e_fne2, e_seq, e_sne, e_ta1, e_ta2, Nat.zero_add, Nat.add_zero, Bool.not_true, Bool.not_false]
    refine hK w2 ?_ k2 (by omega)
    rw [armJ, if_neg (by omega)]
    exact ⟨⟨sv, lv, r2, hs2, hl2⟩, h.mj, ⟨ok.safe, by show (0 : Int) ≤ 0; omega, by show (0 : Int) ≤ _; omega, ok.tot, ok.cp, ok.len⟩, hM2⟩
theorem commit_ok (h : Jn M w j lob J) (hK : ∀ w', Jn M w' j lob (comJ J).1 → Kp (fun b => b = j) w w' → w'.heap.size = w.heap.size → K (I (comJ J).2) w') : cl Tryz.prog 179 #[P j 0] K w := by
  have hx := h.ex
  obtain ⟨sv, lv, r, hs, hl⟩ := hx
  apply c179
  unfold s179_p1
  try simp only [e_fd, e_nck, e_pkt, e_pkf, e_gdtt, e_gdtf, e_gdft, e_gdff, e_ift, e_iff, e_not, e_ln, e_lnT, e_cp, e_cvi, e_ex20, e_ex21, e_ex30, e_ex31, e_ex32, e_add, e_sub, e_mul, e_quo, e_rem, e_and, e_or, e_xor, e_shl, e_shr, e_eql, e_neq, e_lss, e_leq, e_gtr, e_geq, e_beq, e_bne, e_peq1, e_peq2, e_pne1, e_pne2, e_zeq1, e_zeq2, e_zne1, e_zne2, e_feq1, e_fne1, e_feq2, e_fne2, e_seq, e_sne, e_ta1, e_ta2, Nat.zero_add, Nat.add_zero, Bool.not_true, Bool.not_false]
  refine ld1_r r rfl ?_
  unfold comJ at hK
  cases ho : J.off with
  | true =>
    rw [ho] at hK
    simp only [if_true, e_fd, e_nck, e_pkt, e_pkf, e_gdtt, e_gdtf, e_gdft, e_gdff, e_ift, e_iff, e_not, e_ln, e_lnT, e_cp, e_cvi, e_ex20, e_ex21, e_ex30, e_ex31, e_ex32, e_add, e_sub, e_mul, e_quo, e_rem, e_and, e_or, e_xor, e_shl, e_shr, e_eql, e_neq, e_lss, e_leq, e_gtr, e_geq, e_beq, e_bne, e_peq1, e_peq2, e_pne1, e_pne2, e_zeq1, e_zeq2, e_zne1, e_zne2, e_feq1, e_fne1, e_feq2, e_fne2, e_seq, e_sne, e_ta1, e_ta2, Nat.zero_add, Nat.add_zero, Bool.not_true, Bool.not_false] at hK ⊢
    exact hK w h (Kp.refl _ _) rfl
  | false =>
    rw [ho] at hK
    simp only [Bool.false_eq_true, if_false, e_fd, e_nck, e_pkt, e_pkf, e_gdtt, e_gdtf, e_gdft, e_gdff, e_ift, e_iff, e_not, e_ln, e_lnT, e_cp, e_cvi, e_ex20, e_ex21, e_ex30, e_ex31, e_ex32, e_add, e_sub, e_mul, e_quo, e_rem, e_and, e_or, e_xor, e_shl, e_shr, e_eql, e_neq, e_lss, e_leq, e_gtr, e_geq, e_beq, e_bne, e_peq1, e_peq2, e_pne1, e_pne2, e_zeq1, e_zeq2, e_zne1, e_zne2, e_feq1, e_fne1, e_feq2, e_fne2, e_seq, e_sne, e_ta1, e_ta2, Nat.zero_add, Nat.add_zero, Bool.not_true, Bool.not_false] at hK ⊢
    refine due_ok h fun w1 h1 hk1 hz1 => ?_
    by_cases hl1 : J.left = 1
    · rw [if_pos hl1] at hK
      rw [decide_eq_true hl1]
      try simp only [e_fd, e_nck, e_pkt, e_pkf, e_gdtt, e_gdtf, e_gdft, e_gdff, e_ift, e_iff, e_not, e_ln, e_lnT, e_cp, e_cvi, e_ex20, e_ex21, e_ex30, e_ex31, e_ex32, e_add, e_sub, e_mul, e_quo, e_rem, e_and, e_or, e_xor, e_shl, e_shr, e_eql, e_neq, e_lss, e_leq, e_gtr, e_geq, e_beq, e_bne, e_peq1, e_peq2, e_pne1, e_pne2, e_zeq1, e_zeq2, e_zne1, e_zne2, e_feq1, e_fne1, e_feq2, e_fne2, e_seq, e_sne, e_ta1, e_ta2, Nat.zero_add, Nat.add_zero, Bool.not_true, Bool.not_false]
      obtain ⟨sv1, lv1, r1, _⟩ := h1.ex
      refine ld1_r r1 rfl ?_
      refine fail_ok h1 fun w2 h2 hk2 hz2 => ?_
      exact hK w2 h2 (hk1.trans hk2) (by omega)
    · rw [if_neg hl1] at hK
      rw [decide_eq_false hl1]
      try simp only [e_fd, e_nck, e_pkt, e_pkf, e_gdtt, e_gdtf, e_gdft, e_gdff, e_ift, e_iff, e_not, e_ln, e_lnT, e_cp, e_cvi, e_ex20, e_ex21, e_ex30, e_ex31, e_ex32, e_add, e_sub, e_mul, e_quo, e_rem, e_and, e_or, e_xor, e_shl, e_shr, e_eql, e_neq, e_lss, e_leq, e_gtr, e_geq, e_beq, e_bne, e_peq1, e_peq2, e_pne1, e_pne2, e_zeq1, e_zeq2, e_zne1, e_zne2, e_feq1, e_fne1, e_feq2, e_fne2, e_seq, e_sne, e_ta1, e_ta2, Nat.zero_add, Nat.add_zero, Bool.not_true, Bool.not_false]
      obtain ⟨sv1, lv1, r1, hs1, hlg1⟩ := h1.ex
      refine ld1_r r1 rfl ?_
      refine hlg1.ln ?_
      try simp only [e_fd, e_nck, e_pkt, e_pkf, e_gdtt, e_gdtf, e_gdft, e_gdff, e_ift, e_iff, e_not, e_ln, e_lnT, e_cp, e_cvi, e_ex20, e_ex21, e_ex30, e_ex31, e_ex32, e_add, e_sub, e_mul, e_quo, e_rem, e_and, e_or, e_xor, e_shl, e_shr, e_eql, e_neq, e_lss, e_leq, e_gtr, e_geq, e_beq, e_bne, e_peq1, e_peq2, e_pne1, e_pne2, e_zeq1, e_zeq2, e_zne1, e_zne2, e_feq1, e_fne1, e_feq2, e_fne2, e_seq, e_sne, e_ta1, e_ta2, Nat.zero_add, Nat.add_zero, Bool.not_true, Bool.not_false]
      refine jst r1 hs1 hlg1 h1.lt h1.mj (by decide) rfl fun w2 r2 hs2 hl2 hM2 hk2 hz2 => ?_
      exact hK w2 ⟨⟨sv1, lv1, r2, hs2, hl2⟩, h1.mj, ⟨Nat.le_refl _, h1.ok.l0, h1.ok.l1, h1.ok.tot, h1.ok.cp, h1.ok.len⟩, hM2⟩ (hk1.trans hk2) (by omega)
/-- one more entry in the log -/
theorem Lg.app {eb : Nat} {ev : Value} (hl : Lg M w lob lv log) (hM : ∀ b, M b → b < w.heap.size) (hlen : log.length ≤ 1099511627776) (he : Sl bC 1 w 5 (some eb) ev xs) (hxl : xs.length ≤ 140737488355328) (hem : ¬ M eb) {sb : Nat} (rs : Row w sb 37 [ev])
    (hK : ∀ w' v' lob', Ext M (fun b => M b ∨ lob' = some b) w w' → Kp (fun b => lob = some b) w w' → (lob' = lob ∨ ∃ b, lob' = some b ∧ w.heap.size ≤ b) → Lg (fun b => M b ∨ lob' = some b) w' lob' v' (log ++ [xs]) → K v' w') :
    apq 37 [nilS] 24 lv (.slice (some ⟨sb, 0, none⟩) 1 1) K w := by
  obtain ⟨evs, h1, h2, h3, h4⟩ := hl
  have hrd : Rds one 1 w (.slice (some ⟨sb, 0, none⟩) 1 1) [ev] := (Ar.row (F := fun _ => True) (xs := [ev]) one_len rs trivial (by simp)).rds one_len
  have hS : ∀ b, lob = some b → b < w.heap.size → M b := fun b e _ => h2 b e
  refine Sl.app3 one_len rfl (fun y hy => ?_) h1 hrd (by simp; omega) (by simp; omega) fun w1 v1 lob1 s1 hk1 ho1 => ?_
  · rw [List.mem_singleton] at hy
    rw [hy]
    show (scal ev && true) = true
    rw [sl_scal he]; rfl
  have hx : Ext M (fun b => M b ∨ lob1 = some b) w w1 := Ext.add? hM hk1 (fun m e => by
      rcases ho1 with q | ⟨b, q, hb⟩
      · exact .inl (h2 m (q ▸ e))
      · rw [q] at e; cases e; exact .inr hb) (fun m e => by obtain ⟨l, hr⟩ := s1.row e; exact hr.lt)
  refine hK w1 v1 lob1 hx hk1 ho1 ⟨evs ++ [ev], s1, fun b e => .inr e, by simp [h3], fun i a b => ?_⟩
  rw [List.length_append, List.length_singleton] at a b
  rcases Nat.lt_or_ge i evs.length with q | q
  · rw [List.getElem_append_left q, List.getElem_append_left (by omega)]
    exact (h4 i q (by omega)).ext hx hk1 hS
  · have e1 : i = evs.length := by omega
    subst e1
    have hne : lob ≠ some eb := fun e => hem (h2 eb e)
    have := (he.kp hk1 (fun b e q => by cases e; exact hne q)).ar (F := Im (fun b => M b ∨ lob1 = some b) w1) bC_len hxl (fun b e => by
      cases e
      refine ⟨fun q => q.elim hem fun q => ?_, by have := he.lt; have := hk1.size; omega⟩
      obtain ⟨l, hr⟩ := s1.row q
      obtain ⟨l2, hr2⟩ := (he.kp hk1 (fun b e q => by cases e; exact hne q)).row rfl
      exact row_ne hr hr2 (by decide) rfl)
    have g1 : (evs ++ [ev])[evs.length] = ev := by simp
    have g2 : (log ++ [xs])[evs.length]'(by simp; omega) = xs := by simp [h3]
    rw [g1, g2]
    exact this
theorem append_ok (h : Jn M w j lob J) (hx : Ar bC 1 S w v xs) (h0 : 0 < xs.length)
    (hK : ∀ w' M' lob', Ext M M' w w' → Kp (OwnJ j lob) w w' → (lob' = lob ∨ ∃ b, lob' = some b ∧ w.heap.size ≤ b) → Jn M' w' j lob' (appJ J xs).1 → K (I (appJ J xs).2) w') : cl Tryz.prog 239 #[P j 0, v] K w := by
  have hxl := hx.len
  obtain ⟨sv, lv, r, hs, hl⟩ := h.ex
  have same : ∀ w1, Kp Emp w w1 → Ext M M w w1 := fun w1 hk => Ext.same h.lt hk
  apply c239
  unfold s239_p3
  try simp only [e_fd, e_nck, e_pkt, e_pkf, e_gdtt, e_gdtf, e_gdft, e_gdff, e_ift, e_iff, e_not, e_ln, e_lnT, e_cp, e_cvi, e_ex20, e_ex21, e_ex30, e_ex31, e_ex32, e_add, e_sub, e_mul, e_quo, e_rem, e_and, e_or, e_xor, e_shl, e_shr, e_eql, e_neq, e_lss, e_leq, e_gtr, e_geq, e_beq, e_bne, e_peq1, e_peq2, e_pne1, e_pne2, e_zeq1, e_zeq2, e_zne1, e_zne2, e_feq1, e_fne1, e_feq2, e_fne2, e_seq, e_sne, e_ta1, e_ta2, Nat.zero_add, Nat.add_zero, Bool.not_true, Bool.not_false]
  refine ld1_r r rfl ?_
  unfold appJ at hK
  cases ho : J.off with
  | true =>
    rw [ho] at hK
    simp only [if_true, e_fd, e_nck, e_pkt, e_pkf, e_gdtt, e_gdtf, e_gdft, e_gdff, e_ift, e_iff, e_not, e_ln, e_lnT, e_cp, e_cvi, e_ex20, e_ex21, e_ex30, e_ex31, e_ex32, e_add, e_sub, e_mul, e_quo, e_rem, e_and, e_or, e_xor, e_shl, e_shr, e_eql, e_neq, e_lss, e_leq, e_gtr, e_geq, e_beq, e_bne, e_peq1, e_peq2, e_pne1, e_pne2, e_zeq1, e_zeq2, e_zne1, e_zne2, e_feq1, e_fne1, e_feq2, e_fne2, e_seq, e_sne, e_ta1, e_ta2, Nat.zero_add, Nat.add_zero, Bool.not_true, Bool.not_false] at hK ⊢
    exact hK w M lob (same w (Kp.refl _ _)) (Kp.refl _ _) (.inl rfl) h
  | false =>
    rw [if_neg (show ¬ J.off = true by rw [ho]; simp)] at hK
    try simp only [e_fd, e_nck, e_pkt, e_pkf, e_gdtt, e_gdtf, e_gdft, e_gdff, e_ift, e_iff, e_not, e_ln, e_lnT, e_cp, e_cvi, e_ex20, e_ex21, e_ex30, e_ex31, e_ex32, e_add, e_sub, e_mul, e_quo, e_rem, e_and, e_or, e_xor, e_shl, e_shr, e_eql, e_neq, e_lss, e_leq, e_gtr, e_geq, e_beq, e_bne, e_peq1, e_peq2, e_pne1, e_pne2, e_zeq1, e_zeq2, e_zne1, e_zne2, e_feq1, e_fne1, e_feq2, e_fne2, e_seq, e_sne, e_ta1, e_ta2, Nat.zero_add, Nat.add_zero, Bool.not_true, Bool.not_false]
    refine hx.ln ?_
    try simp only [e_fd, e_nck, e_pkt, e_pkf, e_gdtt, e_gdtf, e_gdft, e_gdff, e_ift, e_iff, e_not, e_ln, e_lnT, e_cp, e_cvi, e_ex20, e_ex21, e_ex30, e_ex31, e_ex32, e_add, e_sub, e_mul, e_quo, e_rem, e_and, e_or, e_xor, e_shl, e_shr, e_eql, e_neq, e_lss, e_leq, e_gtr, e_geq, e_beq, e_bne, e_peq1, e_peq2, e_pne1, e_pne2, e_zeq1, e_zeq2, e_zne1, e_zne2, e_feq1, e_fne1, e_feq2, e_fne2, e_seq, e_sne, e_ta1, e_ta2, Nat.zero_add, Nat.add_zero, Bool.not_true, Bool.not_false]
    refine ld1_r r rfl ?_
    try simp only [e_fd, e_nck, e_pkt, e_pkf, e_gdtt, e_gdtf, e_gdft, e_gdff, e_ift, e_iff, e_not, e_ln, e_lnT, e_cp, e_cvi, e_ex20, e_ex21, e_ex30, e_ex31, e_ex32, e_add, e_sub, e_mul, e_quo, e_rem, e_and, e_or, e_xor, e_shl, e_shr, e_eql, e_neq, e_lss, e_leq, e_gtr, e_geq, e_beq, e_bne, e_peq1, e_peq2, e_pne1, e_pne2, e_zeq1, e_zeq2, e_zne1, e_zne2, e_feq1, e_fne1, e_feq2, e_fne2, e_seq, e_sne, e_ta1, e_ta2, Nat.zero_add, Nat.add_zero, Bool.not_true, Bool.not_false]
    by_cases h1 : J.mr < ((xs.length : Nat) : Int)
    · rw [if_pos h1] at hK
      simp only [h1, decide_true, e_fd, e_nck, e_pkt, e_pkf, e_gdtt, e_gdtf, e_gdft, e_gdff, e_ift, e_iff, e_not, e_ln, e_lnT, e_cp, e_cvi, e_ex20, e_ex21, e_ex30, e_ex31, e_ex32, e_add, e_sub, e_mul, e_quo, e_rem, e_and, e_or, e_xor, e_shl, e_shr, e_eql, e_neq, e_lss, e_leq, e_gtr, e_geq, e_beq, e_bne, e_peq1, e_peq2, e_pne1, e_pne2, e_zeq1, e_zeq2, e_zne1, e_zne2, e_feq1, e_fne1, e_feq2, e_fne2, e_seq, e_sne, e_ta1, e_ta2, Nat.zero_add, Nat.add_zero, Bool.not_true, Bool.not_false]
      exact hK w M lob (same w (Kp.refl _ _)) (Kp.refl _ _) (.inl rfl) h
    · rw [if_neg h1] at hK
      simp only [h1, decide_false, e_fd, e_nck, e_pkt, e_pkf, e_gdtt, e_gdtf, e_gdft, e_gdff, e_ift, e_iff, e_not, e_ln, e_lnT, e_cp, e_cvi, e_ex20, e_ex21, e_ex30, e_ex31, e_ex32, e_add, e_sub, e_mul, e_quo, e_rem, e_and, e_or, e_xor, e_shl, e_shr, e_eql, e_neq, e_lss, e_leq, e_gtr, e_geq, e_beq, e_bne, e_peq1, e_peq2, e_pne1, e_pne2, e_zeq1, e_zeq2, e_zne1, e_zne2, e_feq1, e_fne1, e_feq2, e_fne2, e_seq, e_sne, e_ta1, e_ta2, Nat.zero_add, Nat.add_zero, Bool.not_true, Bool.not_false]
      refine hx.ln ?_
      refine room_ok h ?_
      try simp only [e_fd, e_nck, e_pkt, e_pkf, e_gdtt, e_gdtf, e_gdft, e_gdff, e_ift, e_iff, e_not, e_ln, e_lnT, e_cp, e_cvi, e_ex20, e_ex21, e_ex30, e_ex31, e_ex32, e_add, e_sub, e_mul, e_quo, e_rem, e_and, e_or, e_xor, e_shl, e_shr, e_eql, e_neq, e_lss, e_leq, e_gtr, e_geq, e_beq, e_bne, e_peq1, e_peq2, e_pne1, e_pne2, e_zeq1, e_zeq2, e_zne1, e_zne2, e_feq1, e_fne1, e_feq2, e_fne2, e_seq, e_sne, e_ta1, e_ta2, Nat.zero_add, Nat.add_zero, Bool.not_true, Bool.not_false]
      by_cases h2 : roomR J < ((xs.length : Nat) : Int)
      · rw [if_pos h2] at hK
        simp only [h2, decide_true, e_fd, e_nck, e_pkt, e_pkf, e_gdtt, e_gdtf, e_gdft, e_gdff, e_ift, e_iff, e_not, e_ln, e_lnT, e_cp, e_cvi, e_ex20, e_ex21, e_ex30, e_ex31, e_ex32, e_add, e_sub, e_mul, e_quo, e_rem, e_and, e_or, e_xor, e_shl, e_shr, e_eql, e_neq, e_lss, e_leq, e_gtr, e_geq, e_beq, e_bne, e_peq1, e_peq2, e_pne1, e_pne2, e_zeq1, e_zeq2, e_zne1, e_zne2, e_feq1, e_fne1, e_feq2, e_fne2, e_seq, e_sne, e_ta1, e_ta2, Nat.zero_add, Nat.add_zero, Bool.not_true, Bool.not_false]
        exact hK w M lob (same w (Kp.refl _ _)) (Kp.refl _ _) (.inl rfl) h
      · rw [if_neg h2] at hK
        simp only [h2, decide_false, e_fd, e_nck, e_pkt, e_pkf, e_gdtt, e_gdtf, e_gdft, e_gdff, e_ift, e_iff, e_not, e_ln, e_lnT, e_cp, e_cvi, e_ex20, e_ex21, e_ex30, e_ex31, e_ex32, e_add, e_sub, e_mul, e_quo, e_rem, e_and, e_or, e_xor, e_shl, e_shr, e_eql, e_neq, e_lss, e_leq, e_gtr, e_geq, e_beq, e_bne, e_peq1, e_peq2, e_pne1, e_pne2, e_zeq1, e_zeq2, e_zne1, e_zne2, e_feq1, e_fne1, e_feq2, e_fne2, e_seq, e_sne, e_ta1, e_ta2, Nat.zero_add, Nat.add_zero, Bool.not_true, Bool.not_false]
        have ht := room_tot h0 h2
        have hcp := h.ok.cp.2
        have hln := h.ok.len
        unfold s239_p2 s239_p2_d
        have kd : Kp Emp w (drw w) := kp_drw
        have szd : (drw w).heap.size = w.heap.size := rfl
        generalize drw w = w1 at kd szd ⊢
        have hj1 := h.kp' kd
        have r1 := kd.row' r
        try simp only [e_fd, e_nck, e_pkt, e_pkf, e_gdtt, e_gdtf, e_gdft, e_gdff, e_ift, e_iff, e_not, e_ln, e_lnT, e_cp, e_cvi, e_ex20, e_ex21, e_ex30, e_ex31, e_ex32, e_add, e_sub, e_mul, e_quo, e_rem, e_and, e_or, e_xor, e_shl, e_shr, e_eql, e_neq, e_lss, e_leq, e_gtr, e_geq, e_beq, e_bne, e_peq1, e_peq2, e_pne1, e_pne2, e_zeq1, e_zeq2, e_zne1, e_zne2, e_feq1, e_fne1, e_feq2, e_fne2, e_seq, e_sne, e_ta1, e_ta2, Nat.zero_add, Nat.add_zero, Bool.not_true, Bool.not_false]
        refine ld1_r r1 rfl ?_
        try simp only [e_fd, e_nck, e_pkt, e_pkf, e_gdtt, e_gdtf, e_gdft, e_gdff, e_ift, e_iff, e_not, e_ln, e_lnT, e_cp, e_cvi, e_ex20, e_ex21, e_ex30, e_ex31, e_ex32, e_add, e_sub, e_mul, e_quo, e_rem, e_and, e_or, e_xor, e_shl, e_shr, e_eql, e_neq, e_lss, e_leq, e_gtr, e_geq, e_beq, e_bne, e_peq1, e_peq2, e_pne1, e_pne2, e_zeq1, e_zeq2, e_zne1, e_zne2, e_feq1, e_fne1, e_feq2, e_fne2, e_seq, e_sne, e_ta1, e_ta2, Nat.zero_add, Nat.add_zero, Bool.not_true, Bool.not_false]
        refine copyOf_ok (hx.kp' kd) fun w2 ev eb se hne hk2 => ⟨hk2.below', ?_⟩
        refine bsq_r (l := [ev]) (fill_one (sl_scal se)) fun w3 r3 hk3 hz3 => ⟨(hk2.trans hk3).below', ?_⟩
        have k3 : Kp Emp w w3 := (kd.trans hk2).trans hk3
        have hM3 : ∀ b, M b → b < w3.heap.size := fun b q => by have := h.lt b q; have := k3.size; omega
        have hl3 : Lg M w3 lob lv J.log := hl.ext (Ext.same h.lt k3) k3 (fun _ q => q.elim) (fun _ _ q => q)
        have hs3 := hs.kp' k3
        refine Lg.app hl3 hM3 hln (se.kp' hk3) hxl (fun q => by have := h.lt _ q; have := hne.1; omega) r3 fun w4 lv4 lob4 hx4 hk4 ho4 hl4 => ?_
        have r4 : Row w4 j 67 (J.cells sv lv) := hk4.row (k3.row' r) (fun q => by
          obtain ⟨evs, s1, _⟩ := hl3
          obtain ⟨l, hr⟩ := s1.row q
          exact row_ne hr (k3.row' r) (by decide) rfl)
        have hs4 : Ai bC 1 (fun b => M b ∨ lob4 = some b) w4 sv J.snap := hs3.ext hx4 hk4 (fun b e _ => by obtain ⟨evs, s1, s2, _⟩ := hl3; exact s2 b e)
        refine st1_r r4 (show 5 < 10 by decide) (by obtain ⟨evs, s1, _⟩ := hl4; exact sl_scal s1) fun w5 r5 hk5 hz5 => ?_
        replace r5 : Row w5 j 67 (({ J with log := J.log ++ [xs] } : Jr).cells sv lv4) := r5
        have hM5 : ∀ b, (M b ∨ lob4 = some b) → b < w5.heap.size := fun b q => by have := hx4.lt b q; omega
        have hS5 : ∀ b, b = j → b < w4.heap.size → (M b ∨ lob4 = some b) := fun b e _ => .inl (e ▸ h.mj)
        have hx5 : Ext (fun b => M b ∨ lob4 = some b) (fun b => M b ∨ lob4 = some b) w4 w5 := Ext.same hx4.lt hk5
        have hj5 : Jn (fun b => M b ∨ lob4 = some b) w5 j lob4 { J with log := J.log ++ [xs] } := ⟨⟨sv, lv4, r5, hs4.ext hx5 hk5 hS5, hl4.ext hx5 hk5 hS5 (fun b e (q : b = j) => by
            obtain ⟨evs, s1, _⟩ := hl4
            obtain ⟨l, hr⟩ := s1.row e
            exact row_ne hr r4 (by decide) q)⟩, .inl h.mj, ⟨by show J.safe ≤ (J.log ++ [xs]).length; have := h.ok.safe; rw [List.length_append]; omega, h.ok.l0, h.ok.l1, by show tot (J.log ++ [xs]) ≤ _; rw [tot_app]; omega, h.ok.cp, by
              show (J.log ++ [xs]).length ≤ _
              have := len_tot J.log
              rw [List.length_append, List.length_singleton]; omega⟩, hM5⟩
        have hx05 : Ext M (fun b => M b ∨ lob4 = some b) w w5 := ((Ext.same h.lt k3).trans hx4).trans hx5
        have k5 : Kp (OwnJ j lob) w w5 := ((k3.none.trans (hk4.mono fun b _ q => .inr q)).trans (hk5.mono fun b _ (q : b = j) => .inl q))
        have ho5 : lob4 = lob ∨ ∃ b, lob4 = some b ∧ w.heap.size ≤ b := by
          rcases ho4 with q | ⟨b, q, hb⟩
          · exact .inl q
          · exact .inr ⟨b, q, by have := k3.size; omega⟩
        unfold s239_p1
        refine due_ok hj5 fun w6 h6 hk6 hz6 => ?_
        have hx6 : Ext M (fun b => M b ∨ lob4 = some b) w w6 := hx05.trans (Ext.same hj5.lt hk6)
        have k6 : Kp (OwnJ j lob) w w6 := k5.trans (hk6.mono fun b _ (q : b = j) => .inl q)
        by_cases hl1 : J.left = 1
        · rw [if_pos hl1] at hK
          rw [decide_eq_true (show ({ J with log := J.log ++ [xs] } : Jr).left = 1 from hl1)]
          try simp only [e_fd, e_nck, e_pkt, e_pkf, e_gdtt, e_gdtf, e_gdft, e_gdff, e_ift, e_iff, e_not, e_ln, e_lnT, e_cp, e_cvi, e_ex20, e_ex21, e_ex30, e_ex31, e_ex32, e_add, e_sub, e_mul, e_quo, e_rem, e_and, e_or, e_xor, e_shl, e_shr, e_eql, e_neq, e_lss, e_leq, e_gtr, e_geq, e_beq, e_bne, e_peq1, e_peq2, e_pne1, e_pne2, e_zeq1, e_zeq2, e_zne1, e_zne2, e_feq1, e_fne1, e_feq2, e_fne2, e_seq, e_sne, e_ta1, e_ta2, Nat.zero_add, Nat.add_zero, Bool.not_true, Bool.not_false]
          obtain ⟨sv6, lv6, r6, _⟩ := h6.ex
          refine ld1_r r6 rfl ?_
          refine fail_ok h6 fun w7 h7 hk7 hz7 => ?_
          exact hK w7 _ lob4 (hx6.trans (Ext.same h6.lt hk7)) (k6.trans (hk7.mono fun b _ (q : b = j) => .inl q)) ho5 h7
        · rw [if_neg hl1] at hK
          rw [decide_eq_false (show ¬ ({ J with log := J.log ++ [xs] } : Jr).left = 1 from hl1)]
          try simp only [e_fd, e_nck, e_pkt, e_pkf, e_gdtt, e_gdtf, e_gdft, e_gdff, e_ift, e_iff, e_not, e_ln, e_lnT, e_cp, e_cvi, e_ex20, e_ex21, e_ex30, e_ex31, e_ex32, e_add, e_sub, e_mul, e_quo, e_rem, e_and, e_or, e_xor, e_shl, e_shr, e_eql, e_neq, e_lss, e_leq, e_gtr, e_geq, e_beq, e_bne, e_peq1, e_peq2, e_pne1, e_pne2, e_zeq1, e_zeq2, e_zne1, e_zne2, e_feq1, e_fne1, e_feq2, e_fne2, e_seq, e_sne, e_ta1, e_ta2, Nat.zero_add, Nat.add_zero, Bool.not_true, Bool.not_false]
          exact hK w6 _ lob4 hx6 k6 ho5 h6
end
end Go.Proofs.Qxb6500896aGreat
