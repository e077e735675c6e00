import Derived.Test.Qxb6500896aGreatK55
namespace Go.Proofs.Qxb6500896aGreat
open Go.Sh Go.RowKit
set_option linter.unusedVariables false
set_option linter.unusedSimpArgs false

theorem vParty_0 {C : Cfg} {cls sz : Int} (h : vParty C cls sz = 0) : (0 ≤ cls ∧ cls < 3) ∧ (1 ≤ sz ∧ sz ≤ C.mp) := by
  unfold vParty at h
  split at h
  · rename_i h1
    split at h
    · rename_i h2; exact ⟨h1, h2⟩
    · omega
  · omega
theorem hasA_1 {C : Cfg} {a : Int} (h : hasA C a = true) : 0 ≤ a ∧ a < ((C.ats.length : Nat) : Int) := by
  unfold hasA at h; simpa using h
theorem vLegs_0 {C : Cfg} {now : Int} {ls : List Leg} (h : vLegs C now ls = 0) : LO2 C now ls := by
  unfold vLegs at h
  split at h
  · rename_i h1
    split at h
    · rename_i h2
      split at h
      · rename_i h3
        refine ⟨h1.1, h1.2, fun l hl => ⟨hasA_1 (List.all_eq_true.1 h2 l hl), ?_⟩⟩
        have := List.all_eq_true.1 h3 l hl
        unfold isO at this
        simpa using this
      · omega
    · omega
  · omega
section
variable {C : Cfg} {now : Int} {q : Rq}
theorem valid_hold (h : valid C now q = 0) (ho : q.op = 1 ∨ q.op = 22) : ((0 ≤ q.cl ∧ q.cl < 3) ∧ (1 ≤ q.sz ∧ q.sz ≤ C.mp)) ∧ LO2 C now q.legs := by
  unfold valid at h
  rw [if_pos ho] at h
  split at h
  · rename_i h1; exact ⟨vParty_0 h1, vLegs_0 h⟩
  · rename_i h1; exact absurd h h1
theorem valid_rebook (h : valid C now q = 0) (ho : q.op = 5) : LO2 C now q.legs := by
  unfold valid at h
  rw [if_neg (by omega), if_pos ho] at h
  exact vLegs_0 h
theorem valid_join (h : valid C now q = 0) (ho : q.op = 6 ∨ q.op = 21) : (0 ≤ q.at' ∧ q.at' < ((C.ats.length : Nat) : Int)) ∧ (0 ≤ q.cl ∧ q.cl < 3) ∧ (1 ≤ q.sz ∧ q.sz ≤ C.mp) := by
  unfold valid at h
  rw [if_neg (by omega), if_neg (by omega), if_pos ho] at h
  split at h
  · rename_i h1; exact ⟨hasA_1 h1, vParty_0 h⟩
  · omega
end
/-- a step on one record -/
def mvS (q : Rq) (σ : Sg) (p : List Rec × Int) : Sg × Rp := ({ σ with rs := p.1 }, mvR q.op p.2 (rget p.1 q.id).st)
/-- a valid request that can change the state is carried out -/
def apS (C : Cfg) (q : Rq) (σ : Sg) : Sg × Rp :=
  if q.op = 1 then ({ σ with rs := (tHold C σ.now q.cl q.sz q.legs σ.rs).1 }, hoR C q σ)
  else if q.op = 2 then mvS q σ (tConfirm C σ.now q.id σ.rs)
  else if q.op = 3 then mvS q σ (tCancel q.id σ.rs)
  else if q.op = 4 then mvS q σ (tArrive σ.now q.id 2 σ.rs)
  else if q.op = 5 then mvS q σ (tRebook C q.id q.legs σ.rs)
  else if q.op = 6 then ({ σ with rs := (tJoin C q.at' q.cl q.sz σ.rs σ.ls).rs, ls := (tJoin C q.at' q.cl q.sz σ.rs σ.ls).ls }, joR q (tJoin C q.at' q.cl q.sz σ.rs σ.ls))
  else if q.op = 7 then ({ σ with rs := (tLeave q.id σ.rs σ.ls).1, ls := (tLeave q.id σ.rs σ.ls).2.1 }, mvR q.op (tLeave q.id σ.rs σ.ls).2.2 (rget (tLeave q.id σ.rs σ.ls).1 q.id).st)
  else if q.op = 8 then mvS q σ (tArrive σ.now q.id 8 σ.rs)
  else if q.op = 9 then (tkS C σ, tkR C q σ)
  else (σ, rf 1)
theorem has_len {rs rs' : List Rec} {id : Int} (h : rs'.length = rs.length) (hh : has rs id) : has rs' id := by unfold has at *; rw [h]; exact hh
theorem tConfirm_has {C : Cfg} {now id : Int} {rs : List Rec} (h : (tConfirm C now id rs).2 = 0) : has (tConfirm C now id rs).1 id := by
  unfold tConfirm at h ⊢
  by_cases hh : has rs id
  · rw [if_pos hh] at h ⊢
    repeat' split
    all_goals first | exact hh | exact has_len (by unfold rset; rw [List.length_set]) hh
  · rw [if_neg hh] at h; exact absurd h (show ¬ (2 : Int) = 0 by decide)
theorem tCancel_has {id : Int} {rs : List Rec} (h : (tCancel id rs).2 = 0) : has (tCancel id rs).1 id := by
  unfold tCancel at h ⊢
  by_cases hh : has rs id
  · rw [if_pos hh] at h ⊢
    repeat' split
    all_goals first | exact hh | exact has_len (by unfold rset; rw [List.length_set]) hh
  · rw [if_neg hh] at h; exact absurd h (show ¬ (2 : Int) = 0 by decide)
theorem tArrive_has {now id st : Int} {rs : List Rec} (h : (tArrive now id st rs).2 = 0) : has (tArrive now id st rs).1 id := by
  unfold tArrive at h ⊢
  by_cases hh : has rs id
  · rw [if_pos hh] at h ⊢
    repeat' split
    all_goals first | exact hh | exact has_len (by unfold rset; rw [List.length_set]) hh
  · rw [if_neg hh] at h; exact absurd h (show ¬ (2 : Int) = 0 by decide)
theorem tRebook_has {C : Cfg} {id : Int} {lg : List Leg} {rs : List Rec} (h : (tRebook C id lg rs).2 = 0) : has (tRebook C id lg rs).1 id := by
  unfold tRebook at h ⊢
  by_cases hh : has rs id
  · rw [if_pos hh] at h ⊢
    repeat' split
    all_goals first | exact hh | exact has_len (by unfold rset; rw [List.length_set]) hh
  · rw [if_neg hh] at h; exact absurd h (show ¬ (2 : Int) = 0 by decide)
theorem tLeave_has {id : Int} {rs : List Rec} {ls : List (List Int)} (h : (tLeave id rs ls).2.2 = 0) : has (tLeave id rs ls).1 id := by
  unfold tLeave at h ⊢
  by_cases h0 : (tWithdraw id rs).2 = 0
  · rw [if_pos h0] at h ⊢
    show has (tWithdraw id rs).1 id
    unfold tWithdraw at h0 ⊢
    by_cases hh : has rs id
    · rw [if_pos hh] at h0 ⊢
      repeat' split
      all_goals first | exact hh | exact has_len (by unfold rset; rw [List.length_set]) hh
    · rw [if_neg hh] at h0; exact absurd h0 (show ¬ (2 : Int) = 0 by decide)
  · rw [if_neg h0] at h; exact absurd h h0
section
variable {F G M0 M M' S V : Nat → Prop} {w w' w0 w1 w4 : World} {v rv lv iv : Value} {l : List Value} {n wb e t b c pb : Nat} {C : Cfg} {K : Value → World → Prop} {m0 m m' m4 : Me} {σ σ' : Sg} {J J' : Jr} {q : Rq} {p : Rp} {code : Int}
/-- the end of a step on one record -/
theorem mv_end (s : Es M w e m C V w4 M' m4 σ' J) (hp : V pb) (r : Row w4 pb 94 (rp0.cells nilS nilS nilS)) (hb : ∀ r ∈ σ'.rs, RN r) (hid : N63 q.id) (hc : code = 0 → has σ'.rs q.id) (hsc : scal lv = true)
    (hK : EnK M w e m C σ' J fun w' m' => ∀ l, Rv (Fb w e w' m') w' l (mvR q.op code (rget σ'.rs q.id).st) → K (.agg l.toArray) w') :
    cl Tryz.prog 207 #[P e 0, .agg (q.cells lv).toArray, I code] (fun t w => stn 34 (P pb 0) t (fun w => ldn 34 (P pb 0) (fun r0 _ => K r0 w) w) w) w4 := by
  obtain ⟨m1, m2, m3, m5⟩ := mvR_p q.op code (rget σ'.rs q.id).st
  refine moved_ok s.en (fun r hr => by have := (hb r hr).ll; omega) hid hc hsc fun w5 hk5 => ?_
  have hlen : ((mvR q.op code (rget σ'.rs q.id).st).cells nilS nilS nilS).length = 34 := Rp.len m5
  refine stn_r (cs := (mvR q.op code (rget σ'.rs q.id).st).cells nilS nilS nilS) (hk5.row' r) hlen (show 0 + 34 ≤ 34 by decide) (Rp.sc rfl rfl rfl) fun w6 r6 hk6 hz6 => ?_
  rw [List.take_zero, List.nil_append, Nat.zero_add, List.drop_of_length_le (by decide), List.append_nil] at r6
  refine ldn_r r6 (by omega) ?_
  rw [List.drop_zero, List.take_of_length_le (by omega)]
  exact ((s.emp hk5).wr hk6 fun b (q : b = _) => q ▸ hp).done hK _ (Rv.plain m1 m2 m3 m5)
set_option maxHeartbeats 2000000 in
theorem apply_ok (cv : CV C) (g : Gd C σ.seq σ.now σ.rs σ.ls) (h : En M w e m C σ J) (hq : Qv F w l q) (hF : ∀ b, F b → b < w.heap.size) (hN : XprN q) (hv : valid C σ.now q = 0)
    (hK : EnK M w e m C (apS C q σ).1 J fun w' m' => ∀ l, Rv (Fb w e w' m') w' l (apS C q σ).2 → K (.agg l.toArray) w') : cl Tryz.prog 177 #[P e 0, .agg l.toArray] K w := by
  obtain ⟨lv, rfl, hl⟩ := hq
  have hsc := hl.scal
  have hn := g.now
  have mc := cv.mc.2
  have hn2 : 0 ≤ σ.now ∧ σ.now ≤ 1099511627776 := ⟨hn.1, by omega⟩
  apply c177R
  unfold s177R_p33
  refine nw_r fun w1 r1 hk1 hz1 => ?_
  replace r1 : Row w1 w.heap.size 52 (q.cells lv) := r1
  refine nw_r fun w2 r2 hk2 hz2 => ?_
  replace r2 : Row w2 w1.heap.size 94 (rp0.cells nilS nilS nilS) := r2
  have r12 := hk2.row' r1
  have s2 := (((Es.start h).new hk1 (Nat.le_refl _) (by omega)).new hk2 (Nat.le_refl _) (by omega))
  have k2 := hk1.trans hk2
  have hl2 := hl.kp' k2
  have hG2 : ∀ b, F b → b < w2.heap.size := fun b q => by have := hF b q; omega
  refine fdp ?_
  refine ld1_r r12 rfl ?_
  have o1 : ∀ {x : Int}, (q.op == x) = true → q.op = x := fun q => by simpa using q
  have o0 : ∀ {x : Int}, (q.op == x) = false → q.op ≠ x := fun q => by simpa using q
  have ldq : ∀ {w' : World} {X : Value → World → Prop}, Row w' w.heap.size 52 (q.cells lv) → X (.agg (q.cells lv).toArray) w' → ldn 8 (P w.heap.size 0) X w' := fun r hX => ldn_r r (show 0 + 8 ≤ 8 by decide) hX
  unfold apS at hK
  -- a call of the engine itself: hold, join, tick
  have sub : ∀ {σ' : Sg} {p : Rp} {w4 : World} {M4 : Nat → Prop} {m4 : Me} {l : List Value}, Es M w e m C (fun b => (Emp b ∨ b = w.heap.size) ∨ b = w1.heap.size) w4 M4 m4 σ' J → Row w4 w1.heap.size 94 (rp0.cells nilS nilS nilS) → Rv (Fb w2 e w4 m4) w4 l p → (EnK M w e m C σ' J fun w' m' => ∀ l, Rv (Fb w e w' m') w' l p → K (.agg l.toArray) w') →
      stn 34 (P w1.heap.size 0) (.agg l.toArray) (fun w => ldn 34 (P w1.heap.size 0) (fun r0 _ => K r0 w) w) w4 := by
    intro σ' p w4 M4 m4 l s4 p4 rv hK
    have hlen := rv.len
    refine stn_r (cs := l) p4 hlen (show 0 + 34 ≤ 34 by decide) rv.sc fun w6 r6 hk6 hz6 => ?_
    rw [List.take_zero, List.nil_append, Nat.zero_add, List.drop_of_length_le (by decide), List.append_nil] at r6
    refine ldn_r r6 (by omega) ?_
    rw [List.drop_zero, List.take_of_length_le (by omega)]
    refine (s4.wr hk6 fun b (q : b = _) => .inr q).done hK _ ((rv.kp hk6 fun b hb (q : b = _) => by have := hb.1; omega).mono fun b hb => ⟨by have := hb.1; omega, by have := hb.2.1; omega, hb.2.2⟩)
  unfold s177R_p32
  cases c1 : (q.op == 1) with
  | true =>
    refine sw_yes c1 ?_
    rw [if_pos (o1 c1)] at hK
    obtain ⟨⟨v1, v2⟩, v3⟩ := valid_hold hv (.inl (o1 c1))
    unfold s177R_p2
    refine ldq r12 ?_
    refine holdE_ok cv g s2.en hl2 hG2 v3 v1 v2 fun w4 M4 m4 hx4 hk4 hj4 ho4 h4 => ?_
    have p4 := hk4.row r2 (s2.nV (c := w1.heap.size) (.inr rfl) · rfl)
    have s4 := s2.own hx4 hk4 (fun b q => q) hj4 ho4 h4
    have hp : (hoR C q σ).iss = [] ∧ (hoR C q σ).recs = [] ∧ (hoR C q σ).wt = [] ∧ (hoR C q σ).cnt.length = 10 := by unfold hoR; split <;> exact ⟨rfl, rfl, rfl, rfl⟩
    exact sub s4 p4 (Rv.plain hp.1 hp.2.1 hp.2.2.1 hp.2.2.2) hK
  | false =>
  refine sw_no c1 ?_
  rw [if_neg (o0 c1)] at hK
  unfold s177R_p30
  cases c2 : (q.op == 2) with
  | true =>
    refine sw_yes c2 ?_
    rw [if_pos (o1 c2)] at hK
    unfold s177R_p4 s177R_p4_d
    have kd : Kp Emp w2 (drw w2) := kp_drw
    generalize drw w2 = w3 at kd ⊢
    have s3 := s2.emp kd
    have q3 := kd.row' r12
    have p3 := kd.row' r2
    obtain ⟨va, vt, env, re⟩ := s3.row
    refine ⟨fun w' => Row w' e 137 (C.cells va vt ++ σ.cells m env) ∧ Row w' w.heap.size 52 (q.cells lv), ⟨re, q3⟩, ?_⟩
    refine ⟨.agg (q.cells lv).toArray, fun w' hJ => ldq hJ.2 ⟨rfl, rfl⟩, ?_⟩
    try simp only [e_fd, e_nck, e_pkt, e_pkf, e_gdtt, e_gdtf, e_gdft, e_gdff, e_ift, e_iff, e_not, e_ln, e_lnT, e_cp, e_cvi, e_ex20, e_ex21, e_ex30, e_ex31, e_ex32, e_add, e_sub, e_mul, e_quo, e_rem, e_and, e_or, e_xor, e_shl, e_shr, e_eql, e_neq, e_lss, e_leq, e_gtr, e_geq, e_beq, e_bne, e_peq1, e_peq2, e_pne1, e_pne2, e_zeq1, e_zeq2, e_zne1, e_zne2, e_feq1, e_fne1, e_feq2, e_fne2, e_seq, e_sne, e_ta1, e_ta2, Nat.zero_add, Nat.add_zero, Bool.not_true, Bool.not_false]
    refine ⟨_, fun w' hJ => ld1_r hJ.1 rfl ⟨rfl, rfl⟩, ?_⟩
    try simp only [e_fd, e_nck, e_pkt, e_pkf, e_gdtt, e_gdtf, e_gdft, e_gdff, e_ift, e_iff, e_not, e_ln, e_lnT, e_cp, e_cvi, e_ex20, e_ex21, e_ex30, e_ex31, e_ex32, e_add, e_sub, e_mul, e_quo, e_rem, e_and, e_or, e_xor, e_shl, e_shr, e_eql, e_neq, e_lss, e_leq, e_gtr, e_geq, e_beq, e_bne, e_peq1, e_peq2, e_pne1, e_pne2, e_zeq1, e_zeq2, e_zne1, e_zne2, e_feq1, e_fne1, e_feq2, e_fne2, e_seq, e_sne, e_ta1, e_ta2, Nat.zero_add, Nat.add_zero, Bool.not_true, Bool.not_false]
    refine ⟨_, fun w' hJ => ld1_r hJ.1 rfl ⟨rfl, rfl⟩, ?_⟩
    try simp only [e_fd, e_nck, e_pkt, e_pkf, e_gdtt, e_gdtf, e_gdft, e_gdff, e_ift, e_iff, e_not, e_ln, e_lnT, e_cp, e_cvi, e_ex20, e_ex21, e_ex30, e_ex31, e_ex32, e_add, e_sub, e_mul, e_quo, e_rem, e_and, e_or, e_xor, e_shl, e_shr, e_eql, e_neq, e_lss, e_leq, e_gtr, e_geq, e_beq, e_bne, e_peq1, e_peq2, e_pne1, e_pne2, e_zeq1, e_zeq2, e_zne1, e_zne2, e_feq1, e_fne1, e_feq2, e_fne2, e_seq, e_sne, e_ta1, e_ta2, Nat.zero_add, Nat.add_zero, Bool.not_true, Bool.not_false]
    refine ⟨_, fun w' hJ => ld1_r hJ.2 rfl ⟨rfl, rfl⟩, ?_⟩
    refine confirm_ok cv (g.ti cv) hn2 hN.id s3.en.tb fun w4 M4 rob4 hx4 hk4 ho4 tb4 => ?_
    have s4 := s3.tbl hx4 hk4 ho4 tb4
    refine ⟨⟨hk4.row re fun q => s3.en.neE (.inl q) rfl, hk4.row q3 (s3.nT (.inl (.inr rfl)))⟩, ?_⟩
    exact mv_end s4 (.inr rfl) (hk4.row p3 (s3.nT (.inr rfl))) g.confirm.rn hN.id tConfirm_has hsc hK
  | false =>
  refine sw_no c2 ?_
  rw [if_neg (o0 c2)] at hK
  unfold s177R_p28
  cases c3 : (q.op == 3) with
  | true =>
    refine sw_yes c3 ?_
    rw [if_pos (o1 c3)] at hK
    unfold s177R_p6 s177R_p6_d
    have kd : Kp Emp w2 (drw w2) := kp_drw
    generalize drw w2 = w3 at kd ⊢
    have s3 := s2.emp kd
    have q3 := kd.row' r12
    have p3 := kd.row' r2
    obtain ⟨va, vt, env, re⟩ := s3.row
    refine ⟨fun w' => Row w' e 137 (C.cells va vt ++ σ.cells m env) ∧ Row w' w.heap.size 52 (q.cells lv), ⟨re, q3⟩, ?_⟩
    refine ⟨.agg (q.cells lv).toArray, fun w' hJ => ldq hJ.2 ⟨rfl, rfl⟩, ?_⟩
    try simp only [e_fd, e_nck, e_pkt, e_pkf, e_gdtt, e_gdtf, e_gdft, e_gdff, e_ift, e_iff, e_not, e_ln, e_lnT, e_cp, e_cvi, e_ex20, e_ex21, e_ex30, e_ex31, e_ex32, e_add, e_sub, e_mul, e_quo, e_rem, e_and, e_or, e_xor, e_shl, e_shr, e_eql, e_neq, e_lss, e_leq, e_gtr, e_geq, e_beq, e_bne, e_peq1, e_peq2, e_pne1, e_pne2, e_zeq1, e_zeq2, e_zne1, e_zne2, e_feq1, e_fne1, e_feq2, e_fne2, e_seq, e_sne, e_ta1, e_ta2, Nat.zero_add, Nat.add_zero, Bool.not_true, Bool.not_false]
    refine ⟨_, fun w' hJ => ld1_r hJ.1 rfl ⟨rfl, rfl⟩, ?_⟩
    try simp only [e_fd, e_nck, e_pkt, e_pkf, e_gdtt, e_gdtf, e_gdft, e_gdff, e_ift, e_iff, e_not, e_ln, e_lnT, e_cp, e_cvi, e_ex20, e_ex21, e_ex30, e_ex31, e_ex32, e_add, e_sub, e_mul, e_quo, e_rem, e_and, e_or, e_xor, e_shl, e_shr, e_eql, e_neq, e_lss, e_leq, e_gtr, e_geq, e_beq, e_bne, e_peq1, e_peq2, e_pne1, e_pne2, e_zeq1, e_zeq2, e_zne1, e_zne2, e_feq1, e_fne1, e_feq2, e_fne2, e_seq, e_sne, e_ta1, e_ta2, Nat.zero_add, Nat.add_zero, Bool.not_true, Bool.not_false]
    refine ⟨_, fun w' hJ => ld1_r hJ.2 rfl ⟨rfl, rfl⟩, ?_⟩
    refine cancel_ok hN.id s3.en.tb fun w4 M4 rob4 hx4 hk4 ho4 tb4 => ?_
    have s4 := s3.tbl hx4 hk4 ho4 tb4
    refine ⟨⟨hk4.row re fun q => s3.en.neE (.inl q) rfl, hk4.row q3 (s3.nT (.inl (.inr rfl)))⟩, ?_⟩
    exact mv_end s4 (.inr rfl) (hk4.row p3 (s3.nT (.inr rfl))) g.cancel.rn hN.id tCancel_has hsc hK
  | false =>
  refine sw_no c3 ?_
  rw [if_neg (o0 c3)] at hK
  unfold s177R_p26
  cases c4 : (q.op == 4) with
  | true =>
    refine sw_yes c4 ?_
    rw [if_pos (o1 c4)] at hK
    unfold s177R_p8 s177R_p8_d
    have kd : Kp Emp w2 (drw w2) := kp_drw
    generalize drw w2 = w3 at kd ⊢
    have s3 := s2.emp kd
    have q3 := kd.row' r12
    have p3 := kd.row' r2
    obtain ⟨va, vt, env, re⟩ := s3.row
    refine ⟨fun w' => Row w' e 137 (C.cells va vt ++ σ.cells m env) ∧ Row w' w.heap.size 52 (q.cells lv), ⟨re, q3⟩, ?_⟩
    refine ⟨.agg (q.cells lv).toArray, fun w' hJ => ldq hJ.2 ⟨rfl, rfl⟩, ?_⟩
    try simp only [e_fd, e_nck, e_pkt, e_pkf, e_gdtt, e_gdtf, e_gdft, e_gdff, e_ift, e_iff, e_not, e_ln, e_lnT, e_cp, e_cvi, e_ex20, e_ex21, e_ex30, e_ex31, e_ex32, e_add, e_sub, e_mul, e_quo, e_rem, e_and, e_or, e_xor, e_shl, e_shr, e_eql, e_neq, e_lss, e_leq, e_gtr, e_geq, e_beq, e_bne, e_peq1, e_peq2, e_pne1, e_pne2, e_zeq1, e_zeq2, e_zne1, e_zne2, e_feq1, e_fne1, e_feq2, e_fne2, e_seq, e_sne, e_ta1, e_ta2, Nat.zero_add, Nat.add_zero, Bool.not_true, Bool.not_false]
    refine ⟨_, fun w' hJ => ld1_r hJ.1 rfl ⟨rfl, rfl⟩, ?_⟩
    try simp only [e_fd, e_nck, e_pkt, e_pkf, e_gdtt, e_gdtf, e_gdft, e_gdff, e_ift, e_iff, e_not, e_ln, e_lnT, e_cp, e_cvi, e_ex20, e_ex21, e_ex30, e_ex31, e_ex32, e_add, e_sub, e_mul, e_quo, e_rem, e_and, e_or, e_xor, e_shl, e_shr, e_eql, e_neq, e_lss, e_leq, e_gtr, e_geq, e_beq, e_bne, e_peq1, e_peq2, e_pne1, e_pne2, e_zeq1, e_zeq2, e_zne1, e_zne2, e_feq1, e_fne1, e_feq2, e_fne2, e_seq, e_sne, e_ta1, e_ta2, Nat.zero_add, Nat.add_zero, Bool.not_true, Bool.not_false]
    refine ⟨_, fun w' hJ => ld1_r hJ.1 rfl ⟨rfl, rfl⟩, ?_⟩
    try simp only [e_fd, e_nck, e_pkt, e_pkf, e_gdtt, e_gdtf, e_gdft, e_gdff, e_ift, e_iff, e_not, e_ln, e_lnT, e_cp, e_cvi, e_ex20, e_ex21, e_ex30, e_ex31, e_ex32, e_add, e_sub, e_mul, e_quo, e_rem, e_and, e_or, e_xor, e_shl, e_shr, e_eql, e_neq, e_lss, e_leq, e_gtr, e_geq, e_beq, e_bne, e_peq1, e_peq2, e_pne1, e_pne2, e_zeq1, e_zeq2, e_zne1, e_zne2, e_feq1, e_fne1, e_feq2, e_fne2, e_seq, e_sne, e_ta1, e_ta2, Nat.zero_add, Nat.add_zero, Bool.not_true, Bool.not_false]
    refine ⟨_, fun w' hJ => ld1_r hJ.2 rfl ⟨rfl, rfl⟩, ?_⟩
    refine checkIn_ok (g.ti cv) hN.id s3.en.tb fun w4 M4 rob4 hx4 hk4 ho4 tb4 => ?_
    have s4 := s3.tbl hx4 hk4 ho4 tb4
    refine ⟨⟨hk4.row re fun q => s3.en.neE (.inl q) rfl, hk4.row q3 (s3.nT (.inl (.inr rfl)))⟩, ?_⟩
    exact mv_end s4 (.inr rfl) (hk4.row p3 (s3.nT (.inr rfl))) (g.arrive (.inl rfl)).rn hN.id tArrive_has hsc hK
  | false =>
  refine sw_no c4 ?_
  rw [if_neg (o0 c4)] at hK
  unfold s177R_p24
  cases c5 : (q.op == 5) with
  | true =>
    refine sw_yes c5 ?_
    rw [if_pos (o1 c5)] at hK
    have v3 := valid_rebook hv (o1 c5)
    unfold s177R_p10 s177R_p10_d
    have kd : Kp Emp w2 (drw w2) := kp_drw
    have szd : (drw w2).heap.size = w2.heap.size := rfl
    generalize drw w2 = w3 at kd szd ⊢
    have s3 := s2.emp kd
    have q3 := kd.row' r12
    have p3 := kd.row' r2
    obtain ⟨va, vt, env, re⟩ := s3.row
    refine ⟨fun w' => Row w' e 137 (C.cells va vt ++ σ.cells m env) ∧ Row w' w.heap.size 52 (q.cells lv), ⟨re, q3⟩, ?_⟩
    refine ⟨.agg (q.cells lv).toArray, fun w' hJ => ldq hJ.2 ⟨rfl, rfl⟩, ?_⟩
    try simp only [e_fd, e_nck, e_pkt, e_pkf, e_gdtt, e_gdtf, e_gdft, e_gdff, e_ift, e_iff, e_not, e_ln, e_lnT, e_cp, e_cvi, e_ex20, e_ex21, e_ex30, e_ex31, e_ex32, e_add, e_sub, e_mul, e_quo, e_rem, e_and, e_or, e_xor, e_shl, e_shr, e_eql, e_neq, e_lss, e_leq, e_gtr, e_geq, e_beq, e_bne, e_peq1, e_peq2, e_pne1, e_pne2, e_zeq1, e_zeq2, e_zne1, e_zne2, e_feq1, e_fne1, e_feq2, e_fne2, e_seq, e_sne, e_ta1, e_ta2, Nat.zero_add, Nat.add_zero, Bool.not_true, Bool.not_false]
    refine ⟨_, fun w' hJ => ld1_r hJ.1 rfl ⟨rfl, rfl⟩, ?_⟩
    try simp only [e_fd, e_nck, e_pkt, e_pkf, e_gdtt, e_gdtf, e_gdft, e_gdff, e_ift, e_iff, e_not, e_ln, e_lnT, e_cp, e_cvi, e_ex20, e_ex21, e_ex30, e_ex31, e_ex32, e_add, e_sub, e_mul, e_quo, e_rem, e_and, e_or, e_xor, e_shl, e_shr, e_eql, e_neq, e_lss, e_leq, e_gtr, e_geq, e_beq, e_bne, e_peq1, e_peq2, e_pne1, e_pne2, e_zeq1, e_zeq2, e_zne1, e_zne2, e_feq1, e_fne1, e_feq2, e_fne2, e_seq, e_sne, e_ta1, e_ta2, Nat.zero_add, Nat.add_zero, Bool.not_true, Bool.not_false]
    refine ⟨_, fun w' hJ => ld1_r hJ.1 rfl ⟨rfl, rfl⟩, ?_⟩
    try simp only [e_fd, e_nck, e_pkt, e_pkf, e_gdtt, e_gdtf, e_gdft, e_gdff, e_ift, e_iff, e_not, e_ln, e_lnT, e_cp, e_cvi, e_ex20, e_ex21, e_ex30, e_ex31, e_ex32, e_add, e_sub, e_mul, e_quo, e_rem, e_and, e_or, e_xor, e_shl, e_shr, e_eql, e_neq, e_lss, e_leq, e_gtr, e_geq, e_beq, e_bne, e_peq1, e_peq2, e_pne1, e_pne2, e_zeq1, e_zeq2, e_zne1, e_zne2, e_feq1, e_fne1, e_feq2, e_fne2, e_seq, e_sne, e_ta1, e_ta2, Nat.zero_add, Nat.add_zero, Bool.not_true, Bool.not_false]
    refine ⟨_, fun w' hJ => ld1_r hJ.2 rfl ⟨rfl, rfl⟩, ?_⟩
    try simp only [e_fd, e_nck, e_pkt, e_pkf, e_gdtt, e_gdtf, e_gdft, e_gdff, e_ift, e_iff, e_not, e_ln, e_lnT, e_cp, e_cvi, e_ex20, e_ex21, e_ex30, e_ex31, e_ex32, e_add, e_sub, e_mul, e_quo, e_rem, e_and, e_or, e_xor, e_shl, e_shr, e_eql, e_neq, e_lss, e_leq, e_gtr, e_geq, e_beq, e_bne, e_peq1, e_peq2, e_pne1, e_pne2, e_zeq1, e_zeq2, e_zne1, e_zne2, e_feq1, e_fne1, e_feq2, e_fne2, e_seq, e_sne, e_ta1, e_ta2, Nat.zero_add, Nat.add_zero, Bool.not_true, Bool.not_false]
    refine ⟨_, fun w' hJ => ld1_r (v := lv) hJ.2 rfl ⟨rfl, rfl⟩, ?_⟩
    refine rebook_ok cv (g.ti cv) s3.en.tb (hl2.kp' kd) (fun b q => by have := hG2 b q; omega) (v3.lo cv hn) hN.id hn2 fun w4 M4 rob4 hx4 hk4 ho4 tb4 => ?_
    have s4 := s3.tbl hx4 hk4 ho4 tb4
    refine ⟨⟨hk4.row re fun q => s3.en.neE (.inl q) rfl, hk4.row q3 (s3.nT (.inl (.inr rfl)))⟩, ?_⟩
    exact mv_end s4 (.inr rfl) (hk4.row p3 (s3.nT (.inr rfl))) (g.rebook cv v3).rn hN.id tRebook_has hsc hK
  | false =>
  refine sw_no c5 ?_
  rw [if_neg (o0 c5)] at hK
  unfold s177R_p22
  cases c6 : (q.op == 6) with
  | true =>
    refine sw_yes c6 ?_
    rw [if_pos (o1 c6)] at hK
    obtain ⟨v1, v2, v3⟩ := valid_join hv (.inl (o1 c6))
    unfold s177R_p11
    refine ldq r12 ?_
    refine joinE_ok cv s2.en g.li.len v1 hsc fun w4 M4 m4 hx4 hk4 hj4 ho4 h4 => ?_
    have p4 := hk4.row r2 (s2.nV (c := w1.heap.size) (.inr rfl) · rfl)
    have s4 := s2.own hx4 hk4 (fun b q => q) hj4 ho4 h4
    have hp : ∀ j : JoinR, (joR q j).iss = [] ∧ (joR q j).recs = [] ∧ (joR q j).wt = [] ∧ (joR q j).cnt.length = 10 := fun j => by unfold joR; split <;> exact ⟨rfl, rfl, rfl, rfl⟩
    exact sub s4 p4 (Rv.plain (hp _).1 (hp _).2.1 (hp _).2.2.1 (hp _).2.2.2) hK
  | false =>
  refine sw_no c6 ?_
  rw [if_neg (o0 c6)] at hK
  unfold s177R_p20
  cases c7 : (q.op == 7) with
  | true =>
    refine sw_yes c7 ?_
    rw [if_pos (o1 c7)] at hK
    unfold s177R_p13 s177R_p13_d
    have kd : Kp Emp w2 (drw w2) := kp_drw
    generalize drw w2 = w3 at kd ⊢
    have s3 := s2.emp kd
    have q3 := kd.row' r12
    have p3 := kd.row' r2
    obtain ⟨va, vt, env, re⟩ := s3.row
    refine ⟨fun w' => Row w' e 137 (C.cells va vt ++ σ.cells m env) ∧ Row w' w.heap.size 52 (q.cells lv), ⟨re, q3⟩, ?_⟩
    refine ⟨.agg (q.cells lv).toArray, fun w' hJ => ldq hJ.2 ⟨rfl, rfl⟩, ?_⟩
    try simp only [e_fd, e_nck, e_pkt, e_pkf, e_gdtt, e_gdtf, e_gdft, e_gdff, e_ift, e_iff, e_not, e_ln, e_lnT, e_cp, e_cvi, e_ex20, e_ex21, e_ex30, e_ex31, e_ex32, e_add, e_sub, e_mul, e_quo, e_rem, e_and, e_or, e_xor, e_shl, e_shr, e_eql, e_neq, e_lss, e_leq, e_gtr, e_geq, e_beq, e_bne, e_peq1, e_peq2, e_pne1, e_pne2, e_zeq1, e_zeq2, e_zne1, e_zne2, e_feq1, e_fne1, e_feq2, e_fne2, e_seq, e_sne, e_ta1, e_ta2, Nat.zero_add, Nat.add_zero, Bool.not_true, Bool.not_false]
    refine ⟨_, fun w' hJ => ld1_r hJ.1 rfl ⟨rfl, rfl⟩, ?_⟩
    try simp only [e_fd, e_nck, e_pkt, e_pkf, e_gdtt, e_gdtf, e_gdft, e_gdff, e_ift, e_iff, e_not, e_ln, e_lnT, e_cp, e_cvi, e_ex20, e_ex21, e_ex30, e_ex31, e_ex32, e_add, e_sub, e_mul, e_quo, e_rem, e_and, e_or, e_xor, e_shl, e_shr, e_eql, e_neq, e_lss, e_leq, e_gtr, e_geq, e_beq, e_bne, e_peq1, e_peq2, e_pne1, e_pne2, e_zeq1, e_zeq2, e_zne1, e_zne2, e_feq1, e_fne1, e_feq2, e_fne2, e_seq, e_sne, e_ta1, e_ta2, Nat.zero_add, Nat.add_zero, Bool.not_true, Bool.not_false]
    refine ⟨_, fun w' hJ => ld1_r hJ.1 rfl ⟨rfl, rfl⟩, ?_⟩
    try simp only [e_fd, e_nck, e_pkt, e_pkf, e_gdtt, e_gdtf, e_gdft, e_gdff, e_ift, e_iff, e_not, e_ln, e_lnT, e_cp, e_cvi, e_ex20, e_ex21, e_ex30, e_ex31, e_ex32, e_add, e_sub, e_mul, e_quo, e_rem, e_and, e_or, e_xor, e_shl, e_shr, e_eql, e_neq, e_lss, e_leq, e_gtr, e_geq, e_beq, e_bne, e_peq1, e_peq2, e_pne1, e_pne2, e_zeq1, e_zeq2, e_zne1, e_zne2, e_feq1, e_fne1, e_feq2, e_fne2, e_seq, e_sne, e_ta1, e_ta2, Nat.zero_add, Nat.add_zero, Bool.not_true, Bool.not_false]
    refine ⟨_, fun w' hJ => ld1_r hJ.2 rfl ⟨rfl, rfl⟩, ?_⟩
    refine leave_ok s3.en.tb s3.en.li hN.id fun w4 M4 rob4 lobs4 hx4 hk4 ho4 tb4 li4 => ?_
    have s4 := s3.tl hx4 hk4 ho4 tb4 li4
    refine ⟨⟨hk4.row re fun q => q.elim (fun q => s3.en.neE (.inl q) rfl) (fun q => s3.en.neE (.inr (.inl q)) rfl), hk4.row q3 (s3.nTL (.inl (.inr rfl)))⟩, ?_⟩
    exact mv_end s4 (.inr rfl) (hk4.row p3 (s3.nTL (.inr rfl))) g.leave.rn hN.id tLeave_has hsc hK
  | false =>
  refine sw_no c7 ?_
  rw [if_neg (o0 c7)] at hK
  unfold s177R_p18
  cases c8 : (q.op == 8) with
  | true =>
    refine sw_yes c8 ?_
    rw [if_pos (o1 c8)] at hK
    unfold s177R_p15 s177R_p15_d
    have kd : Kp Emp w2 (drw w2) := kp_drw
    generalize drw w2 = w3 at kd ⊢
    have s3 := s2.emp kd
    have q3 := kd.row' r12
    have p3 := kd.row' r2
    obtain ⟨va, vt, env, re⟩ := s3.row
    refine ⟨fun w' => Row w' e 137 (C.cells va vt ++ σ.cells m env) ∧ Row w' w.heap.size 52 (q.cells lv), ⟨re, q3⟩, ?_⟩
    refine ⟨.agg (q.cells lv).toArray, fun w' hJ => ldq hJ.2 ⟨rfl, rfl⟩, ?_⟩
    try simp only [e_fd, e_nck, e_pkt, e_pkf, e_gdtt, e_gdtf, e_gdft, e_gdff, e_ift, e_iff, e_not, e_ln, e_lnT, e_cp, e_cvi, e_ex20, e_ex21, e_ex30, e_ex31, e_ex32, e_add, e_sub, e_mul, e_quo, e_rem, e_and, e_or, e_xor, e_shl, e_shr, e_eql, e_neq, e_lss, e_leq, e_gtr, e_geq, e_beq, e_bne, e_peq1, e_peq2, e_pne1, e_pne2, e_zeq1, e_zeq2, e_zne1, e_zne2, e_feq1, e_fne1, e_feq2, e_fne2, e_seq, e_sne, e_ta1, e_ta2, Nat.zero_add, Nat.add_zero, Bool.not_true, Bool.not_false]
    refine ⟨_, fun w' hJ => ld1_r hJ.1 rfl ⟨rfl, rfl⟩, ?_⟩
    try simp only [e_fd, e_nck, e_pkt, e_pkf, e_gdtt, e_gdtf, e_gdft, e_gdff, e_ift, e_iff, e_not, e_ln, e_lnT, e_cp, e_cvi, e_ex20, e_ex21, e_ex30, e_ex31, e_ex32, e_add, e_sub, e_mul, e_quo, e_rem, e_and, e_or, e_xor, e_shl, e_shr, e_eql, e_neq, e_lss, e_leq, e_gtr, e_geq, e_beq, e_bne, e_peq1, e_peq2, e_pne1, e_pne2, e_zeq1, e_zeq2, e_zne1, e_zne2, e_feq1, e_fne1, e_feq2, e_fne2, e_seq, e_sne, e_ta1, e_ta2, Nat.zero_add, Nat.add_zero, Bool.not_true, Bool.not_false]
    refine ⟨_, fun w' hJ => ld1_r hJ.1 rfl ⟨rfl, rfl⟩, ?_⟩
    try simp only [e_fd, e_nck, e_pkt, e_pkf, e_gdtt, e_gdtf, e_gdft, e_gdff, e_ift, e_iff, e_not, e_ln, e_lnT, e_cp, e_cvi, e_ex20, e_ex21, e_ex30, e_ex31, e_ex32, e_add, e_sub, e_mul, e_quo, e_rem, e_and, e_or, e_xor, e_shl, e_shr, e_eql, e_neq, e_lss, e_leq, e_gtr, e_geq, e_beq, e_bne, e_peq1, e_peq2, e_pne1, e_pne2, e_zeq1, e_zeq2, e_zne1, e_zne2, e_feq1, e_fne1, e_feq2, e_fne2, e_seq, e_sne, e_ta1, e_ta2, Nat.zero_add, Nat.add_zero, Bool.not_true, Bool.not_false]
    refine ⟨_, fun w' hJ => ld1_r hJ.2 rfl ⟨rfl, rfl⟩, ?_⟩
    refine redeem_ok (g.ti cv) hN.id s3.en.tb fun w4 M4 rob4 hx4 hk4 ho4 tb4 => ?_
    have s4 := s3.tbl hx4 hk4 ho4 tb4
    refine ⟨⟨hk4.row re fun q => s3.en.neE (.inl q) rfl, hk4.row q3 (s3.nT (.inl (.inr rfl)))⟩, ?_⟩
    exact mv_end s4 (.inr rfl) (hk4.row p3 (s3.nT (.inr rfl))) (g.arrive (.inr rfl)).rn hN.id tArrive_has hsc hK
  | false =>
  refine sw_no c8 ?_
  rw [if_neg (o0 c8)] at hK
  unfold s177R_p16
  cases c9 : (q.op == 9) with
  | true =>
    refine sw_yes c9 ?_
    rw [if_pos (o1 c9)] at hK
    refine ldq r12 ?_
    refine tickE_ok cv g s2.en hsc fun w4 M4 m4 hx4 hk4 hj4 ho4 h4 l4 rv4 => ?_
    have p4 := hk4.row r2 (s2.nV (c := w1.heap.size) (.inr rfl) · rfl)
    have s4 := s2.own hx4 hk4 (fun b q => q) hj4 ho4 h4
    exact sub s4 p4 rv4 hK
  | false =>
    refine sw_no c9 ?_
    rw [if_neg (o0 c9)] at hK
    unfold s177R_p1
    refine refusal_ok fun w4 hk4 => ?_
    exact sub (s2.emp hk4) (hk4.row' r2) (Rv.plain rfl rfl rfl rfl) hK
end
end Go.Proofs.Qxb6500896aGreat
