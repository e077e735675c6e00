import Derived.Test.Qxb6500895aD13
namespace Go.Proofs.Qxb6500895a
open Go.Sh Go.RowKit
set_option linter.unusedVariables false
set_option linter.unusedSimpArgs false

/-- a view in memory -/
def Vw (Q : Nat → Prop) (w : World) (v : Value) (s : DS) : Prop :=
  ∃ kv dv nv fv, v = .agg #[.bool s.off, I s.left, kv, I s.torn, I s.at_, dv, I s.rd, I s.wr, I s.fl, I s.cr, I s.rs, nv, fv] ∧ VsP Q I w kv s.keep ∧ VsP Q I w dv (dirtyL s) ∧ SecL Q w nv (nowS s) ∧ SecL Q w fv s.flu
theorem Vw.mv {Q Q' T : Nat → Prop} {w w' : World} {v : Value} {s : DS} (h : Vw Q w v s) (hk : Kp T w w') (hT : ∀ b, b < w.heap.size → T b → Q b) (hQ : ∀ b, Q' b → Q b ∨ w.heap.size ≤ b) : Vw Q' w' v s := by
  obtain ⟨kv, dv, nv, fv, e, h1, h2, h3, h4⟩ := h
  exact ⟨kv, dv, nv, fv, e, h1.mv hk hT hQ, h2.mv hk hT hQ, h3.mv hk hT hQ, h4.mv hk hT hQ⟩
theorem Vw.kp' {Q : Nat → Prop} {w w' : World} {v : Value} {s : DS} (h : Vw Q w v s) (hk : Kp (fun _ => False) w w') : Vw Q w' v s := h.mv hk (fun _ _ q => q.elim) (fun _ q => .inl q)

section
variable {w : World} {d : Nat} {m : Mem} {s : DS} {K : Value → World → Prop}
theorem slP {Q : Nat → Prop} {ob : Option Nat} {v : Value} {xs : List Int} (h : Sl i1 1 w 3 ob v xs) (hl : xs.length ≤ 65536) (hq : ∀ b, ob = some b → ¬ Q b) : VsP Q I w v xs :=
  ⟨sl_vs h hl, fun b o c _ e => hq b (sl_blk h e)⟩

theorem cutF_nil (s : DS) : cutF s [] (-1) 0 = s.flu := by
  funext i
  unfold cutF
  cases s.fr i with
  | none => rfl
  | some x => simp only; rw [if_neg (by omega), if_neg (by simp)]

/-- the last part of a look: a clone c is read and crashed -/
theorem look_tail {w0 : World} {t2 t3 c : Nat} {mc : Mem} {sc : DS} {kv dv : Value} {Q : Nat → Prop} (hk : Kp (fun _ => False) w0 w) (hc : Dk w c mc sc) (hcf : ∀ b, Own c mc b → w0.heap.size ≤ b) (ho : sc.off = false) (h2 : w0.heap.size ≤ t2) (h3 : w0.heap.size ≤ t3) (hne : t2 ≠ t3)
    (hfr : sc.fr = s.fr) (hfl : sc.flu = s.flu) (hQ : ∀ b, Q b → b < w0.heap.size)
    (r2 : Row w t2 45 [.bool false, I 0, nilS, I 0, I 0, nilS, I 0, I 0, I 0, I 0, I 0, nilS, nilS])
    (r3 : Row w t3 45 [.bool s.off, I s.left, kv, I s.torn, I s.at_, dv, I s.rd, I s.wr, I s.fl, I s.cr, I s.rs, nilS, nilS])
    (hkv : VsP (fun b => Q b ∨ b = t2 ∨ b = t3 ∨ Own c mc b) I w kv s.keep) (hdv : VsP (fun b => Q b ∨ b = t2 ∨ b = t3 ∨ Own c mc b) I w dv (dirtyL s))
    (hK : ∀ w' v, Kp (fun _ => False) w0 w' → Vw Q w' v s → K v w') : s18_p1 K (P t2 0) (P t3 0) (P c 0) w := by
  have n2 : ∀ {w' m' s'}, Dk w' c m' s' → Row w' t2 45 [.bool false, I 0, nilS, I 0, I 0, nilS, I 0, I 0, I 0, I 0, I 0, nilS, nilS] → ¬ Own c m' t2 := fun h r => h.ntag r (by decide)
  unfold s18_p1
  have lt2 := r2.lt
  have lt3 := r3.lt
  refine readAll_ok (Q := fun b => Q b ∨ b = t2 ∨ b = t3 ∨ Own c mc b) hc ho (fun b q => ?_) fun w1 nv r hk1 hc1 hnv => ?_
  · rcases q with q | q | q | q
    · have := hQ b q; have := hk.size; omega
    · omega
    · omega
    · exact hc.lt q
  have hT1 : ∀ b, b < w.heap.size → b = c → (Q b ∨ b = t2 ∨ b = t3 ∨ Own c mc b) := fun b _ e => .inr (.inr (.inr (.inl e)))
  have hkv1 := hkv.mv hk1 hT1 (fun b q => .inl q)
  have hdv1 := hdv.mv hk1 hT1 (fun b q => .inl q)
  have nc2 : ¬ t2 = c := fun e => hc.ntag r2 (by decide) (.inl e)
  have nc3 : ¬ t3 = c := fun e => hc.ntag r3 (by decide) (.inl e)
  have r21 := hk1.row r2 nc2
  have r31 := hk1.row r3 nc3
  simp only [e_fd, e_nck, e_pkt, e_pkf, e_gdtt, e_gdtf, e_gdft, e_gdff, e_ift, e_iff, e_not, e_ln, e_lnT, e_cp, e_cvi, e_ex20, e_ex21, e_ex30, e_ex31, e_ex32, e_add, e_sub, e_mul, e_quo, e_rem, e_and, e_or, e_xor, e_shl, e_shr, e_eql, e_neq, e_lss, e_leq, e_gtr, e_geq, e_beq, e_bne, e_peq1, e_peq2, e_pne1, e_pne2, e_zeq1, e_zeq2, e_zne1, e_zne2, e_feq1, e_fne1, e_feq2, e_fne2, e_seq, e_sne, e_ta1, e_ta2, Nat.zero_add, Nat.add_zero, Bool.not_true, Bool.not_false]
  refine st1_r r31 (show 11 < 13 by decide) hnv.sc fun w2 r32 hk2 hz2 => ?_
  have hT2 : ∀ b, b < w1.heap.size → b = t3 → (Q b ∨ b = t2 ∨ b = t3 ∨ Own c mc b) := fun b _ e => .inr (.inr (.inl e))
  have hkv2 := hkv1.mv hk2 hT2 (fun b q => .inl q)
  have hdv2 := hdv1.mv hk2 hT2 (fun b q => .inl q)
  have hnv2 := hnv.mv hk2 hT2 (fun b q => .inl q)
  have r22 := hk2.row r21 hne
  have hc2 := hc1.frame hk2 (fun b hb (e : b = t3) => hc1.ntag r31 (by decide) (e ▸ hb))
  refine bdq_r rfl ?_
  refine crash_ok (kv := nilS) (keep := []) (torn := -1) (a := 0) hc2 vs_nil (fun b o c' h0 _ => by simp at h0) fun w3 m3 e3 hc3 st3 he3 => ?_
  have hcs : (crS { sc with rd := r } [] (-1) 0).2 = cutS { sc with rd := r } [] (-1) 0 := by
    unfold crS
    rw [if_neg (by show ¬ sc.off = true; rw [ho]; decide)]
  rw [hcs] at hc3
  have hT3 : ∀ b, b < w2.heap.size → Own c mc b → (Q b ∨ b = t2 ∨ b = t3 ∨ Own c mc b) := fun b _ e => .inr (.inr (.inr e))
  have hQ3 : ∀ b, (Q b ∨ b = t2 ∨ b = t3 ∨ Own c m3 b) → (Q b ∨ b = t2 ∨ b = t3 ∨ Own c mc b) ∨ w2.heap.size ≤ b := by
    rintro b (q | q | q | q)
    · exact .inl (.inl q)
    · exact .inl (.inr (.inl q))
    · exact .inl (.inr (.inr (.inl q)))
    · exact (st3.own b q).elim (fun q => .inl (.inr (.inr (.inr q)))) .inr
  have hkv3 := hkv2.mv st3.kp hT3 hQ3
  have hdv3 := hdv2.mv st3.kp hT3 hQ3
  have hnv3 := hnv2.mv st3.kp hT3 hQ3
  have r23 := st3.kp.row r22 (hc2.ntag r22 (by decide))
  have r33 := st3.kp.row r32 (hc2.ntag r32 (by decide))
  refine restart_ok hc3 fun w4 e4 hc4 hk4 he4 => ?_
  have hrs : (reS (cutS { sc with rd := r } [] (-1) 0)).2 = { cutS { sc with rd := r } [] (-1) 0 with off := false, rs := inc sc.rs } := by
    have ho' : (cutS { sc with rd := r } [] (-1) 0).off = true := rfl
    unfold reS
    rw [if_pos ho']
    rfl
  rw [hrs] at hc4
  have hT4 : ∀ b, b < w3.heap.size → b = c → (Q b ∨ b = t2 ∨ b = t3 ∨ Own c m3 b) := fun b _ e => .inr (.inr (.inr (.inl e)))
  have hkv4 := hkv3.mv hk4 hT4 (fun b q => .inl q)
  have hdv4 := hdv3.mv hk4 hT4 (fun b q => .inl q)
  have hnv4 := hnv3.mv hk4 hT4 (fun b q => .inl q)
  have r24 := hk4.row r23 nc2
  have r34 := hk4.row r33 nc3
  refine readAll_ok (Q := fun b => Q b ∨ b = t2 ∨ b = t3 ∨ Own c m3 b) hc4 rfl (fun b q => ?_) fun w5 fv r5 hk5 hc5 hfv => ?_
  · have := r24.lt
    have := r34.lt
    have s1 := hk1.size
    have s3 := st3.kp.size
    have s4 := hk4.size
    have s0 := hk.size
    rcases q with q | q | q | q
    · have := hQ b q; omega
    · omega
    · omega
    · exact hc4.lt q
  have hflS : nowS { cutS { sc with rd := r } [] (-1) 0 with off := false, rs := inc sc.rs } = s.flu := by
    funext i
    show (cutF { sc with rd := r } [] (-1) 0) i = s.flu i
    rw [cutF_nil]
    show sc.flu i = _
    rw [hfl]
  rw [hflS] at hfv
  have hT5 : ∀ b, b < w4.heap.size → b = c → (Q b ∨ b = t2 ∨ b = t3 ∨ Own c m3 b) := fun b _ e => .inr (.inr (.inr (.inl e)))
  have hkv5 := hkv4.mv hk5 hT5 (fun b q => .inl q)
  have hdv5 := hdv4.mv hk5 hT5 (fun b q => .inl q)
  have hnv5 := hnv4.mv hk5 hT5 (fun b q => .inl q)
  have r25 := hk5.row r24 nc2
  have r35 := hk5.row r34 nc3
  try simp only [e_fd, e_nck, e_pkt, e_pkf, e_gdtt, e_gdtf, e_gdft, e_gdff, e_ift, e_iff, e_not, e_ln, e_lnT, e_cp, e_cvi, e_ex20, e_ex21, e_ex30, e_ex31, e_ex32, e_add, e_sub, e_mul, e_quo, e_rem, e_and, e_or, e_xor, e_shl, e_shr, e_eql, e_neq, e_lss, e_leq, e_gtr, e_geq, e_beq, e_bne, e_peq1, e_peq2, e_pne1, e_pne2, e_zeq1, e_zeq2, e_zne1, e_zne2, e_feq1, e_fne1, e_feq2, e_fne2, e_seq, e_sne, e_ta1, e_ta2, Nat.zero_add, Nat.add_zero, Bool.not_true, Bool.not_false]
  refine st1_r r35 (show 12 < 13 by decide) hfv.sc fun w6 r36 hk6 hz6 => ?_
  have hT6 : ∀ b, b < w5.heap.size → b = t3 → (Q b ∨ b = t2 ∨ b = t3 ∨ Own c m3 b) := fun b _ e => .inr (.inr (.inl e))
  have hkv6 := hkv5.mv hk6 hT6 (fun b q => .inl q)
  have hdv6 := hdv5.mv hk6 hT6 (fun b q => .inl q)
  have hnv6 := hnv5.mv hk6 hT6 (fun b q => .inl q)
  have hfv6 := hfv.mv hk6 hT6 (fun b q => .inl q)
  have r26 := hk6.row r25 hne
  have r36' : Row w6 t3 45 [.bool s.off, I s.left, kv, I s.torn, I s.at_, dv, I s.rd, I s.wr, I s.fl, I s.cr, I s.rs, nv, fv] := r36
  refine ldn_r r36' (show 0 + 13 ≤ 13 by decide) ?_
  refine stn_r r26 rfl (show 0 + 13 ≤ 13 by decide) (show ([.bool s.off, I s.left, kv, I s.torn, I s.at_, dv, I s.rd, I s.wr, I s.fl, I s.cr, I s.rs, nv, fv] : List Value).all scal = true by simp only [List.all_cons, hkv6.sc, hdv6.sc, hnv6.sc, hfv6.sc]; rfl) fun w7 r27 hk7 hz7 => ?_
  refine ldn_r r27 (show 0 + 13 ≤ 13 by decide) ?_
  have hT7 : ∀ b, b < w6.heap.size → b = t2 → (Q b ∨ b = t2 ∨ b = t3 ∨ Own c m3 b) := fun b _ e => .inr (.inl e)
  have hQ7 : ∀ b, Q b → (Q b ∨ b = t2 ∨ b = t3 ∨ Own c m3 b) ∨ w6.heap.size ≤ b := fun b q => .inl (.inl q)
  have hnow : nowS { sc with rd := r } = nowS s := by funext i; unfold nowS; rw [hfr, hfl]
  have hnow' : nowS sc = nowS s := by funext i; unfold nowS; rw [hfr, hfl]
  rw [hnow'] at hnv6
  have cf : c ≥ w0.heap.size := hcf c (.inl rfl)
  refine hK w7 _ ?_ ⟨kv, dv, nv, fv, rfl, hkv6.mv hk7 hT7 hQ7, hdv6.mv hk7 hT7 hQ7, hnv6.mv hk7 hT7 hQ7, hfv6.mv hk7 hT7 hQ7⟩
  refine (((((hk.then hk1 ?_).then hk2 ?_).then st3.kp ?_).then hk4 ?_).then hk5 ?_ |>.then hk6 ?_).then hk7 ?_
  · intro k hk' (e : k = c); omega
  · intro k hk' (e : k = t3); omega
  · intro k hk' e; have := hcf k e; omega
  · intro k hk' (e : k = c); omega
  · intro k hk' (e : k = c); omega
  · intro k hk' (e : k = t3); omega
  · intro k hk' (e : k = t2); omega

theorem dirty_len (s : DS) : (dirtyL s).length ≤ 12 := by
  unfold dirtyL
  rw [List.length_map]
  exact Nat.le_trans (List.length_filter_le _ _) (by simp)

theorem look_ok {Q : Nat → Prop} (h : Dk w d m s) (hQ : ∀ b, Q b → b < w.heap.size) (hK : ∀ w' v, Kp (fun _ => False) w w' → Vw Q w' v s → K v w') : cl Try.prog 18 #[P d 0] K w := by
  apply c18
  unfold s18_p2
  refine nw_r fun w1 r1 hk1 hz1 => ?_
  have h1 := h.kp' hk1
  refine offline_ok h1 ?_
  refine dirty_ok h1 fun w2 db dn hk2 hdb hdn rdv => ?_
  have h2 := h1.kp' hk2
  refine stats_ok h2 fun w3 hk3 => ?_
  have h3 := h2.kp' hk3
  refine bdq_r rfl ?_
  refine nw_r fun w4 r4 hk4 hz4 => ?_
  refine stn_r r4 rfl (show 0 + 13 ≤ 13 by decide) rfl fun w5 r5 hk5 hz5 => ?_
  have s2 := hk2.size
  have s3 := hk3.size
  have s4 := hk4.size
  have ldb := rdv.lt
  have hk05 : Kp (fun _ => False) w w5 := (((hk1.trans hk2).trans hk3).trans hk4).then hk5 (fun k hk (q : k = _) => by omega)
  have h5 := h.kp' hk05
  have r15 : Row w5 w.heap.size 45 [.bool false, I 0, nilS, I 0, I 0, nilS, I 0, I 0, I 0, I 0, I 0, nilS, nilS] := hk5.row (hk4.row' (hk3.row' (hk2.row' r1))) (fun (q : _ = _) => by omega)
  have rdv5 : Row w5 db 3 ((dirtyL s).map I) := hk5.row (hk4.row' (hk3.row' rdv)) (fun (q : _ = _) => by omega)
  refine armed_ok h5 fun w6 kv kob hk6 sk kf => ?_
  simp only [e_fd, e_nck, e_pkt, e_pkf, e_gdtt, e_gdtf, e_gdft, e_gdff, e_ift, e_iff, e_not, e_ln, e_lnT, e_cp, e_cvi, e_ex20, e_ex21, e_ex30, e_ex31, e_ex32, e_add, e_sub, e_mul, e_quo, e_rem, e_and, e_or, e_xor, e_shl, e_shr, e_eql, e_neq, e_lss, e_leq, e_gtr, e_geq, e_beq, e_bne, e_peq1, e_peq2, e_pne1, e_pne2, e_zeq1, e_zeq2, e_zne1, e_zne2, e_feq1, e_fne1, e_feq2, e_fne2, e_seq, e_sne, e_ta1, e_ta2, Nat.zero_add, Nat.add_zero, Bool.not_true, Bool.not_false]
  refine st1_r (hk6.row' r5) (show 1 < 13 by decide) rfl fun w7 r7 hk7 hz7 => ?_
  try simp only [e_fd, e_nck, e_pkt, e_pkf, e_gdtt, e_gdtf, e_gdft, e_gdff, e_ift, e_iff, e_not, e_ln, e_lnT, e_cp, e_cvi, e_ex20, e_ex21, e_ex30, e_ex31, e_ex32, e_add, e_sub, e_mul, e_quo, e_rem, e_and, e_or, e_xor, e_shl, e_shr, e_eql, e_neq, e_lss, e_leq, e_gtr, e_geq, e_beq, e_bne, e_peq1, e_peq2, e_pne1, e_pne2, e_zeq1, e_zeq2, e_zne1, e_zne2, e_feq1, e_fne1, e_feq2, e_fne2, e_seq, e_sne, e_ta1, e_ta2, Nat.zero_add, Nat.add_zero, Bool.not_true, Bool.not_false]
  refine stn_r r7 rfl (show 2 + 3 ≤ 13 by decide) (show ([kv, I s.torn, I s.at_] : List Value).all scal = true by simp only [List.all_cons, sl_scal sk]; rfl) fun w8 r8 hk8 hz8 => ?_
  have s6 := hk6.size
  have hk68 : Kp (fun b => b = w3.heap.size) w6 w8 := hk7.trans hk8
  have hk08 : Kp (fun _ => False) w w8 := ((hk05.trans hk6).then hk68 (fun k hk (q : k = _) => by omega))
  have h8 := h.kp' hk08
  have r18 := hk68.row (hk6.row' r15) (fun (q : _ = _) => by omega)
  have rdv8 := hk68.row (hk6.row' rdv5) (fun (q : _ = _) => by omega)
  have sk8 : Sl i1 1 w8 3 kob kv s.keep := sk.kp hk68 (fun b hb (q : b = _) => by have := kf b hb; omega)
  have r8' : Row w8 w3.heap.size 45 [.bool s.off, I s.left, kv, I s.torn, I s.at_, .slice (some ⟨db, 0, none⟩) dn dn, I s.rd, I s.wr, I s.fl, I s.cr, I s.rs, nilS, nilS] := r8
  refine clone_ok h8 fun w9 c mc hk9 hc hcf => ?_
  have s8 := hk08.size
  have s9 := hk9.size
  have r39 := hk9.row' r8'
  have r29 := hk9.row' r18
  have hne : w.heap.size ≠ w3.heap.size := by omega
  have hkv9 : VsP (fun b => Q b ∨ b = w.heap.size ∨ b = w3.heap.size ∨ Own c mc b) I w9 kv s.keep := by
    refine slP (sk8.kp' hk9) h.klen (fun b hb q => ?_)
    have := kf b hb
    obtain ⟨l, hr⟩ := sk8.row hb
    have := hr.lt
    rcases q with q | q | q | q
    · have := hQ b q; omega
    · omega
    · omega
    · have := hcf b q; omega
  have hdv9 : VsP (fun b => Q b ∨ b = w.heap.size ∨ b = w3.heap.size ∨ Own c mc b) I w9 (.slice (some ⟨db, 0, none⟩) dn dn) (dirtyL s) := by
    have hl := dirty_len s
    refine ⟨by rw [hdn]; exact vs_row (junk := []) (by rw [List.append_nil]; exact hk9.row' rdv8) (Nat.le_refl _) (by omega), fun b o c' h0 e q => ?_⟩
    cases e
    have := rdv8.lt
    rcases q with q | q | q | q
    · have := hQ db q; omega
    · omega
    · omega
    · have := hcf db q; omega
  have hk09 := hk08.trans hk9
  refine ld1_r r39 rfl ?_
  cases ho : s.off with
  | true =>
    simp only [e_fd, e_nck, e_pkt, e_pkf, e_gdtt, e_gdtf, e_gdft, e_gdff, e_ift, e_iff, e_not, e_ln, e_lnT, e_cp, e_cvi, e_ex20, e_ex21, e_ex30, e_ex31, e_ex32, e_add, e_sub, e_mul, e_quo, e_rem, e_and, e_or, e_xor, e_shl, e_shr, e_eql, e_neq, e_lss, e_leq, e_gtr, e_geq, e_beq, e_bne, e_peq1, e_peq2, e_pne1, e_pne2, e_zeq1, e_zeq2, e_zne1, e_zne2, e_feq1, e_fne1, e_feq2, e_fne2, e_seq, e_sne, e_ta1, e_ta2, Nat.zero_add, Nat.add_zero, Bool.not_true, Bool.not_false]
    refine restart_ok hc fun w10 e10 hc10 hk10 he10 => ?_
    have hrs : (reS s).2 = { s with off := false, rs := inc s.rs } := by unfold reS; rw [if_pos ho]
    rw [hrs] at hc10
    have nc2 : ¬ w.heap.size = c := fun e => hc.ntag r29 (by decide) (.inl e)
    have nc3 : ¬ w3.heap.size = c := fun e => hc.ntag r39 (by decide) (.inl e)
    have hT : ∀ b, b < w9.heap.size → b = c → (Q b ∨ b = w.heap.size ∨ b = w3.heap.size ∨ Own c mc b) := fun b _ e => .inr (.inr (.inr (.inl e)))
    have cf : c ≥ w8.heap.size := hcf c (.inl rfl)
    exact look_tail (s := s) (hk09.then hk10 (fun k hk (q : k = c) => by omega)) hc10 (fun b hb => by have := hcf b hb; omega) rfl (Nat.le_refl _) (by omega) hne rfl rfl hQ (hk10.row r29 nc2) (hk10.row r39 nc3) (hkv9.mv hk10 hT (fun b q => .inl q)) (hdv9.mv hk10 hT (fun b q => .inl q)) hK
  | false =>
    simp only [e_fd, e_nck, e_pkt, e_pkf, e_gdtt, e_gdtf, e_gdft, e_gdff, e_ift, e_iff, e_not, e_ln, e_lnT, e_cp, e_cvi, e_ex20, e_ex21, e_ex30, e_ex31, e_ex32, e_add, e_sub, e_mul, e_quo, e_rem, e_and, e_or, e_xor, e_shl, e_shr, e_eql, e_neq, e_lss, e_leq, e_gtr, e_geq, e_beq, e_bne, e_peq1, e_peq2, e_pne1, e_pne2, e_zeq1, e_zeq2, e_zne1, e_zne2, e_feq1, e_fne1, e_feq2, e_fne2, e_seq, e_sne, e_ta1, e_ta2, Nat.zero_add, Nat.add_zero, Bool.not_true, Bool.not_false]
    exact look_tail (s := s) hk09 hc (fun b hb => by have := hcf b hb; omega) ho (Nat.le_refl _) (by omega) hne rfl rfl hQ r29 r39 hkv9 hdv9 hK

set_option maxRecDepth 100000 in
theorem st_g : Try.prog.eqGuardType Try.prog.depth 42 = false := by kernel_rfl
set_option maxRecDepth 100000 in
theorem st_u : Try.prog.underlying 42 = some (.struct (Try.prog.fieldsOf 42)) := by kernel_rfl
set_option maxRecDepth 100000 in
theorem st_h : Try.prog.stoodInHeld 42 = false := by kernel_rfl
set_option maxRecDepth 100000 in
theorem st_flat (a b c d e : Int) : flatF Try.prog [I a, I b, I c, I d, I e] [I a, I b, I c, I d, I e] (Try.prog.fieldsOf 42).toList = some [(.i64, a, a), (.i64, b, b), (.i64, c, c), (.i64, d, d), (.i64, e, e)] := by kernel_rfl
theorem stats_eq {a b c d e : Int} {x y : Operand} (hK : K (.bool true) w) : bor Try.prog .eql 42 x y (.agg [I a, I b, I c, I d, I e].toArray) (.agg [I a, I b, I c, I d, I e].toArray) K w := by
  have hps : ([(IntKind.i64, a, a), (.i64, b, b), (.i64, c, c), (.i64, d, d), (.i64, e, e)] : List (IntKind × Int × Int)).all (fun q => q.2.1 == q.2.2) = true := by simp
  have hK' : K (.bool (([(IntKind.i64, a, a), (.i64, b, b), (.i64, c, c), (.i64, d, d), (.i64, e, e)] : List (IntKind × Int × Int)).all (fun q => q.2.1 == q.2.2))) w := by rw [hps]; exact hK
  exact bor_eql_flat (P := Try.prog) (t := 42) (x := x) (y := y) (K := K) (w := w) (xs := [I a, I b, I c, I d, I e]) (ys := [I a, I b, I c, I d, I e]) (ps := [(.i64, a, a), (.i64, b, b), (.i64, c, c), (.i64, d, d), (.i64, e, e)]) st_g st_u st_h (st_flat a b c d e) hK'

theorem sameContent_ok {Q Q' : Nat → Prop} {a b : Value} {s' : DS} (ha : Vw Q w a s) (hb : Vw Q' w b s') (e1 : s.off = s'.off) (e2 : s.fr = s'.fr) (e3 : s.flu = s'.flu) (hK : ∀ w', Kp (fun _ => False) w w' → K (.bool true) w') : cl Try.prog 33 #[a, b] K w := by
  obtain ⟨ka, da, na, fa, rfl, a1, a2, a3, a4⟩ := ha
  obtain ⟨kb, db, nb, fb, rfl, b1, b2, b3, b4⟩ := hb
  apply c33
  unfold s33_p1
  refine nw_r fun w1 r1 hk1 hz1 => ?_
  refine nw_r fun w2 r2 hk2 hz2 => ?_
  have hk02 := hk1.trans hk2
  have r1' := hk2.row' r1
  simp only [e_fd, e_nck, e_pkt, e_pkf, e_gdtt, e_gdtf, e_gdft, e_gdff, e_ift, e_iff, e_not, e_ln, e_lnT, e_cp, e_cvi, e_ex20, e_ex21, e_ex30, e_ex31, e_ex32, e_add, e_sub, e_mul, e_quo, e_rem, e_and, e_or, e_xor, e_shl, e_shr, e_eql, e_neq, e_lss, e_leq, e_gtr, e_geq, e_beq, e_bne, e_peq1, e_peq2, e_pne1, e_pne2, e_zeq1, e_zeq2, e_zne1, e_zne2, e_feq1, e_fne1, e_feq2, e_fne2, e_seq, e_sne, e_ta1, e_ta2, Nat.zero_add, Nat.add_zero, Bool.not_true, Bool.not_false]
  refine ld1_r (v := .bool s.off) r1' rfl ?_
  refine ld1_r (v := .bool s'.off) r2 rfl ?_
  have eo : (s.off == s'.off) = true := by rw [e1]; simp
  simp only [eo, e_fd, e_nck, e_pkt, e_pkf, e_gdtt, e_gdtf, e_gdft, e_gdff, e_ift, e_iff, e_not, e_ln, e_lnT, e_cp, e_cvi, e_ex20, e_ex21, e_ex30, e_ex31, e_ex32, e_add, e_sub, e_mul, e_quo, e_rem, e_and, e_or, e_xor, e_shl, e_shr, e_eql, e_neq, e_lss, e_leq, e_gtr, e_geq, e_beq, e_bne, e_peq1, e_peq2, e_pne1, e_pne2, e_zeq1, e_zeq2, e_zne1, e_zne2, e_feq1, e_fne1, e_feq2, e_fne2, e_seq, e_sne, e_ta1, e_ta2, Nat.zero_add, Nat.add_zero, Bool.not_true, Bool.not_false]
  refine ld1_r (v := da) r1' rfl ?_
  refine ld1_r (v := db) r2 rfl ?_
  have hd : dirtyL s = dirtyL s' := by unfold dirtyL; rw [e2]
  rw [← hd] at b2
  refine sameInts_ok (a2.1.kp' hk02) (b2.1.kp' hk02) fun w3 hk3 => ?_
  simp only [e_fd, e_nck, e_pkt, e_pkf, e_gdtt, e_gdtf, e_gdft, e_gdff, e_ift, e_iff, e_not, e_ln, e_lnT, e_cp, e_cvi, e_ex20, e_ex21, e_ex30, e_ex31, e_ex32, e_add, e_sub, e_mul, e_quo, e_rem, e_and, e_or, e_xor, e_shl, e_shr, e_eql, e_neq, e_lss, e_leq, e_gtr, e_geq, e_beq, e_bne, e_peq1, e_peq2, e_pne1, e_pne2, e_zeq1, e_zeq2, e_zne1, e_zne2, e_feq1, e_fne1, e_feq2, e_fne2, e_seq, e_sne, e_ta1, e_ta2, Nat.zero_add, Nat.add_zero, Bool.not_true, Bool.not_false]
  refine ld1_r (v := na) (hk3.row' r1') rfl ?_
  refine ld1_r (v := nb) (hk3.row' r2) rfl ?_
  have mvA : ∀ {Q : Nat → Prop} {u : Value} {f : Nat → List Int} {w' : World}, SecL Q w u f → Kp (fun _ => False) w w' → SecL Q w' u f := fun h hk => h.mv hk (fun _ _ q => q.elim) (fun _ q => .inl q)
  refine sameSectors_ok (mvA a3 (hk02.trans hk3)) (mvA b3 (hk02.trans hk3)) (fun i _ => by unfold nowS; rw [e2, e3]) fun w4 hk4 => ?_
  simp only [e_fd, e_nck, e_pkt, e_pkf, e_gdtt, e_gdtf, e_gdft, e_gdff, e_ift, e_iff, e_not, e_ln, e_lnT, e_cp, e_cvi, e_ex20, e_ex21, e_ex30, e_ex31, e_ex32, e_add, e_sub, e_mul, e_quo, e_rem, e_and, e_or, e_xor, e_shl, e_shr, e_eql, e_neq, e_lss, e_leq, e_gtr, e_geq, e_beq, e_bne, e_peq1, e_peq2, e_pne1, e_pne2, e_zeq1, e_zeq2, e_zne1, e_zne2, e_feq1, e_fne1, e_feq2, e_fne2, e_seq, e_sne, e_ta1, e_ta2, Nat.zero_add, Nat.add_zero, Bool.not_true, Bool.not_false]
  refine ld1_r (v := fa) (hk4.row' (hk3.row' r1')) rfl ?_
  refine ld1_r (v := fb) (hk4.row' (hk3.row' r2)) rfl ?_
  refine sameSectors_ok (mvA a4 ((hk02.trans hk3).trans hk4)) (mvA b4 ((hk02.trans hk3).trans hk4)) (fun i _ => by rw [e3]) fun w5 hk5 => ?_
  try simp only [e_fd, e_nck, e_pkt, e_pkf, e_gdtt, e_gdtf, e_gdft, e_gdff, e_ift, e_iff, e_not, e_ln, e_lnT, e_cp, e_cvi, e_ex20, e_ex21, e_ex30, e_ex31, e_ex32, e_add, e_sub, e_mul, e_quo, e_rem, e_and, e_or, e_xor, e_shl, e_shr, e_eql, e_neq, e_lss, e_leq, e_gtr, e_geq, e_beq, e_bne, e_peq1, e_peq2, e_pne1, e_pne2, e_zeq1, e_zeq2, e_zne1, e_zne2, e_feq1, e_fne1, e_feq2, e_fne2, e_seq, e_sne, e_ta1, e_ta2, Nat.zero_add, Nat.add_zero, Bool.not_true, Bool.not_false]
  exact hK w5 (((hk02.trans hk3).trans hk4).trans hk5)

theorem same_ok {Q Q' : Nat → Prop} {a b : Value} (ha : Vw Q w a s) (hb : Vw Q' w b s) (hK : ∀ w', Kp (fun _ => False) w w' → K (.bool true) w') : cl Try.prog 17 #[a, b] K w := by
  have ha0 := ha
  have hb0 := hb
  obtain ⟨ka, da, na, fa, rfl, a1, a2, a3, a4⟩ := ha
  obtain ⟨kb, db, nb, fb, rfl, b1, b2, b3, b4⟩ := hb
  apply c17
  unfold s17_p1
  refine nw_r fun w1 r1 hk1 hz1 => ?_
  refine nw_r fun w2 r2 hk2 hz2 => ?_
  have hk02 := hk1.trans hk2
  have r1' := hk2.row' r1
  refine ldn_r r1' (show 0 + 13 ≤ 13 by decide) ?_
  refine ldn_r r2 (show 0 + 13 ≤ 13 by decide) ?_
  refine sameContent_ok (ha0.kp' hk02) (hb0.kp' hk02) rfl rfl rfl fun w3 hk3 => ?_
  have r13 := hk3.row' r1'
  have r23 := hk3.row' r2
  simp only [e_fd, e_nck, e_pkt, e_pkf, e_gdtt, e_gdtf, e_gdft, e_gdff, e_ift, e_iff, e_not, e_ln, e_lnT, e_cp, e_cvi, e_ex20, e_ex21, e_ex30, e_ex31, e_ex32, e_add, e_sub, e_mul, e_quo, e_rem, e_and, e_or, e_xor, e_shl, e_shr, e_eql, e_neq, e_lss, e_leq, e_gtr, e_geq, e_beq, e_bne, e_peq1, e_peq2, e_pne1, e_pne2, e_zeq1, e_zeq2, e_zne1, e_zne2, e_feq1, e_fne1, e_feq2, e_fne2, e_seq, e_sne, e_ta1, e_ta2, Nat.zero_add, Nat.add_zero, Bool.not_true, Bool.not_false]
  refine ldn_r r13 (show 6 + 5 ≤ 13 by decide) ?_
  refine ldn_r r23 (show 6 + 5 ≤ 13 by decide) ?_
  show bor Try.prog .eql 42 _ _ (.agg [I s.rd, I s.wr, I s.fl, I s.cr, I s.rs].toArray) (.agg [I s.rd, I s.wr, I s.fl, I s.cr, I s.rs].toArray) _ _
  refine stats_eq ?_
  simp only [e_fd, e_nck, e_pkt, e_pkf, e_gdtt, e_gdtf, e_gdft, e_gdff, e_ift, e_iff, e_not, e_ln, e_lnT, e_cp, e_cvi, e_ex20, e_ex21, e_ex30, e_ex31, e_ex32, e_add, e_sub, e_mul, e_quo, e_rem, e_and, e_or, e_xor, e_shl, e_shr, e_eql, e_neq, e_lss, e_leq, e_gtr, e_geq, e_beq, e_bne, e_peq1, e_peq2, e_pne1, e_pne2, e_zeq1, e_zeq2, e_zne1, e_zne2, e_feq1, e_fne1, e_feq2, e_fne2, e_seq, e_sne, e_ta1, e_ta2, Nat.zero_add, Nat.add_zero, Bool.not_true, Bool.not_false]
  refine ld1_r (v := I s.left) r13 rfl ?_
  refine ld1_r (v := I s.left) r23 rfl ?_
  simp only [beq_self_eq_true, e_fd, e_nck, e_pkt, e_pkf, e_gdtt, e_gdtf, e_gdft, e_gdff, e_ift, e_iff, e_not, e_ln, e_lnT, e_cp, e_cvi, e_ex20, e_ex21, e_ex30, e_ex31, e_ex32, e_add, e_sub, e_mul, e_quo, e_rem, e_and, e_or, e_xor, e_shl, e_shr, e_eql, e_neq, e_lss, e_leq, e_gtr, e_geq, e_beq, e_bne, e_peq1, e_peq2, e_pne1, e_pne2, e_zeq1, e_zeq2, e_zne1, e_zne2, e_feq1, e_fne1, e_feq2, e_fne2, e_seq, e_sne, e_ta1, e_ta2, Nat.zero_add, Nat.add_zero, Bool.not_true, Bool.not_false]
  refine ld1_r (v := I s.torn) r13 rfl ?_
  refine ld1_r (v := I s.torn) r23 rfl ?_
  simp only [beq_self_eq_true, e_fd, e_nck, e_pkt, e_pkf, e_gdtt, e_gdtf, e_gdft, e_gdff, e_ift, e_iff, e_not, e_ln, e_lnT, e_cp, e_cvi, e_ex20, e_ex21, e_ex30, e_ex31, e_ex32, e_add, e_sub, e_mul, e_quo, e_rem, e_and, e_or, e_xor, e_shl, e_shr, e_eql, e_neq, e_lss, e_leq, e_gtr, e_geq, e_beq, e_bne, e_peq1, e_peq2, e_pne1, e_pne2, e_zeq1, e_zeq2, e_zne1, e_zne2, e_feq1, e_fne1, e_feq2, e_fne2, e_seq, e_sne, e_ta1, e_ta2, Nat.zero_add, Nat.add_zero, Bool.not_true, Bool.not_false]
  refine ld1_r (v := I s.at_) r13 rfl ?_
  refine ld1_r (v := I s.at_) r23 rfl ?_
  simp only [beq_self_eq_true, e_fd, e_nck, e_pkt, e_pkf, e_gdtt, e_gdtf, e_gdft, e_gdff, e_ift, e_iff, e_not, e_ln, e_lnT, e_cp, e_cvi, e_ex20, e_ex21, e_ex30, e_ex31, e_ex32, e_add, e_sub, e_mul, e_quo, e_rem, e_and, e_or, e_xor, e_shl, e_shr, e_eql, e_neq, e_lss, e_leq, e_gtr, e_geq, e_beq, e_bne, e_peq1, e_peq2, e_pne1, e_pne2, e_zeq1, e_zeq2, e_zne1, e_zne2, e_feq1, e_fne1, e_feq2, e_fne2, e_seq, e_sne, e_ta1, e_ta2, Nat.zero_add, Nat.add_zero, Bool.not_true, Bool.not_false]
  refine ld1_r (v := ka) r13 rfl ?_
  refine ld1_r (v := kb) r23 rfl ?_
  refine sameInts_ok (a1.1.kp' (hk02.trans hk3)) (b1.1.kp' (hk02.trans hk3)) fun w4 hk4 => ?_
  try simp only [e_fd, e_nck, e_pkt, e_pkf, e_gdtt, e_gdtf, e_gdft, e_gdff, e_ift, e_iff, e_not, e_ln, e_lnT, e_cp, e_cvi, e_ex20, e_ex21, e_ex30, e_ex31, e_ex32, e_add, e_sub, e_mul, e_quo, e_rem, e_and, e_or, e_xor, e_shl, e_shr, e_eql, e_neq, e_lss, e_leq, e_gtr, e_geq, e_beq, e_bne, e_peq1, e_peq2, e_pne1, e_pne2, e_zeq1, e_zeq2, e_zne1, e_zne2, e_feq1, e_fne1, e_feq2, e_fne2, e_seq, e_sne, e_ta1, e_ta2, Nat.zero_add, Nat.add_zero, Bool.not_true, Bool.not_false]
  exact hK w4 ((hk02.trans hk3).trans hk4)
end
end Go.Proofs.Qxb6500895a
