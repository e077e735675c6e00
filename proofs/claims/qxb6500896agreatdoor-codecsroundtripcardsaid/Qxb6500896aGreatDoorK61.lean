import Derived.Test.Qxb6500896aGreatDoorK60
namespace Go.Proofs.Qxb6500896aGreatDoor
open Go.Sh Go.RowKit
set_option linter.unusedVariables false
set_option linter.unusedSimpArgs false

/-! ### a request that was read is expressible -/
section
theorem decB_x {b : Int} {s : RS} (h : rDone (decB b s).2 = true) : XprN (decB b s).1 := by
  have z : N63 0 := ⟨by decide, by decide⟩
  have nl : LegsN [] := fun l hl => by cases hl
  have N := rNum_N
  unfold decB at h ⊢
  by_cases c1 : b = 1 ∨ b = 22
  · simp only [if_pos c1] at h ⊢
    obtain ⟨g1, g2⟩ := rLegs_N 8 (rNum (rNum s).2).2
    exact ⟨z, z, z, N _, N _, z, g1, g2, by simp only; omega⟩
  simp only [if_neg c1] at h ⊢
  by_cases c2 : b = 5
  · simp only [if_pos c2] at h ⊢
    obtain ⟨g1, g2⟩ := rLegs_N 8 (rNum s).2
    exact ⟨N _, z, z, z, z, z, g1, g2, by simp only; omega⟩
  simp only [if_neg c2] at h ⊢
  by_cases c3 : b = 6
  · simp only [if_pos c3] at h ⊢
    exact ⟨z, N _, z, N _, N _, z, nl, by simp, by simp only; omega⟩
  simp only [if_neg c3] at h ⊢
  by_cases c4 : b ∈ dIds
  · simp only [if_pos c4] at h ⊢
    refine ⟨N _, z, z, z, z, z, nl, by simp, ?_⟩
    simp only
    unfold dIds at c4
    simp only [List.mem_cons, List.not_mem_nil, or_false] at c4
    omega
  simp only [if_neg c4] at h ⊢
  by_cases c5 : b = 17
  · simp only [if_pos c5] at h ⊢
    exact ⟨N _, z, z, z, z, N _, nl, by simp, by simp only; omega⟩
  simp only [if_neg c5] at h ⊢
  by_cases c6 : b = 18
  · simp only [if_pos c6] at h ⊢
    exact ⟨z, N _, N _, z, z, z, nl, by simp, by simp only; omega⟩
  simp only [if_neg c6] at h ⊢
  by_cases c7 : b = 19
  · simp only [if_pos c7] at h ⊢
    exact ⟨z, N _, z, z, z, z, nl, by simp, by simp only; omega⟩
  simp only [if_neg c7] at h ⊢
  by_cases c8 : b = 21
  · simp only [if_pos c8] at h ⊢
    exact ⟨z, N _, N _, N _, N _, z, nl, by simp, by simp only; omega⟩
  simp only [if_neg c8] at h ⊢
  by_cases c9 : b = 9 ∨ b = 20 ∨ b = 23
  · simp only [if_pos c9] at h ⊢
    exact ⟨z, z, z, z, z, z, nl, by simp, by simp only; omega⟩
  simp only [if_neg c9] at h
  cases h
end
theorem dec_x {bs : List Int} (h : (dec bs).2 = 0) : XprN (dec bs).1 := by
  unfold dec decE at h ⊢
  split
  · rename_i q; exact decB_x q
  · rename_i q; rw [if_neg q] at h; cases h
theorem par_x {bs : List Int} (h : (par bs).2.2 = true) : XprN (par bs).2.1 ∧ N63 ((par bs).1 : Nat) := by
  unfold par at h ⊢
  split
  · rename_i q; rw [if_pos q] at h; cases h
  · rename_i q
    rw [if_neg q] at h
    exact ⟨dec_x (by simpa using h), rNum_N _⟩
/-! ### refused: nothing has changed; granted: the state is good -/
theorem mvR_code (op c st : Int) : (mvR op c st).code = c := by
  unfold mvR
  split
  · rename_i h; rw [h]; rfl
  · rfl
section
variable {C : Cfg} {now id st : Int} {rs : List Rec} {ls : List (List Int)} {lg : List Leg} {q : Rq} {σ : Sg} {cls sz attr : Int}
theorem tConfirm_no (h : (tConfirm C now id rs).2 ≠ 0) : (tConfirm C now id rs).1 = rs := by
  unfold tConfirm at h ⊢
  by_cases h1 : has rs id
  · rw [if_pos h1] at h ⊢
    by_cases h2 : (rget rs id).st = 1
    · rw [if_pos h2] at h ⊢
      by_cases h3 : (fst0 (rget rs id)).s + C.gr ≤ now
      · rw [if_pos h3]
      · rw [if_neg h3] at h; exact absurd rfl h
    · rw [if_neg h2]
  · rw [if_neg h1]
theorem tCancel_no (h : (tCancel id rs).2 ≠ 0) : (tCancel id rs).1 = rs := by
  unfold tCancel at h ⊢
  by_cases h1 : has rs id
  · rw [if_pos h1] at h ⊢
    by_cases h2 : (rget rs id).st = 1 ∨ (rget rs id).st = 2 ∨ (rget rs id).st = 8
    · rw [if_pos h2] at h; exact absurd rfl h
    · rw [if_neg h2]
  · rw [if_neg h1]
theorem tArrive_no (h : (tArrive now id st rs).2 ≠ 0) : (tArrive now id st rs).1 = rs := by
  unfold tArrive at h ⊢
  by_cases h1 : has rs id
  · rw [if_pos h1] at h ⊢
    by_cases h2 : (rget rs id).st = st
    · rw [if_pos h2] at h ⊢
      by_cases h3 : now < (fst0 (rget rs id)).s
      · rw [if_pos h3]
      · rw [if_neg h3] at h; exact absurd rfl h
    · rw [if_neg h2]
  · rw [if_neg h1]
theorem tRebook_no (h : (tRebook C id lg rs).2 ≠ 0) : (tRebook C id lg rs).1 = rs := by
  unfold tRebook at h ⊢
  by_cases h1 : has rs id
  · rw [if_pos h1] at h ⊢
    by_cases h2 : (rget rs id).st = 1 ∨ (rget rs id).st = 2
    · rw [if_pos h2] at h ⊢
      by_cases h3 : fits C rs (rget rs id).cl (rget rs id).sz lg id = 0
      · rw [if_pos h3] at h; exact absurd rfl h
      · rw [if_neg h3]
    · rw [if_neg h2]
  · rw [if_neg h1]
theorem tLeave_no (h : (tLeave id rs ls).2.2 ≠ 0) : (tLeave id rs ls).1 = rs ∧ (tLeave id rs ls).2.1 = ls := by
  unfold tLeave at h ⊢
  by_cases h1 : (tWithdraw id rs).2 = 0
  · rw [if_pos h1] at h; exact absurd rfl h
  · rw [if_neg h1]; exact ⟨rfl, rfl⟩
theorem tHold_no (h : (tHold C now cls sz lg rs).2 ≠ 0) : (tHold C now cls sz lg rs).1 = rs := by
  unfold tHold at h ⊢
  split
  · rename_i h1; rw [if_pos h1] at h; exact absurd rfl h
  · rfl
theorem tJoin_no (h : (tJoin C attr cls sz rs ls).code ≠ 0) : (tJoin C attr cls sz rs ls).rs = rs ∧ (tJoin C attr cls sz rs ls).ls = ls := by
  unfold tJoin at h ⊢
  by_cases h1 : C.mx ≤ (((lnOf ls attr).length : Nat) : Int)
  · rw [if_pos h1]; exact ⟨rfl, rfl⟩
  · rw [if_neg h1] at h ⊢
    by_cases h2 : (tEnroll C attr cls sz rs).2 = 0
    · rw [if_pos h2] at h; exact absurd rfl h
    · rw [if_neg h2]; exact ⟨rfl, rfl⟩
theorem mvS_no {p : List Rec × Int} (hp : p.2 ≠ 0 → p.1 = σ.rs) (h : (mvS q σ p).2.code ≠ 0) : (mvS q σ p).1 = σ := by
  unfold mvS at h ⊢
  rw [mvR_code] at h
  show ({ σ with rs := p.1 } : Sg) = σ
  rw [hp h]
theorem hoR_code : (hoR C q σ).code = (tHold C σ.now q.cl q.sz q.legs σ.rs).2 := by
  unfold hoR
  split
  · rename_i h; rw [h]; rfl
  · rfl
theorem joR_code (j : JoinR) : (joR q j).code = j.code := by
  unfold joR
  split
  · rename_i h; rw [h]; rfl
  · rfl
theorem apS_no (h : (apS C q σ).2.code ≠ 0) : (apS C q σ).1 = σ := by
  unfold apS at h ⊢
  by_cases c1 : q.op = 1
  · rw [if_pos c1] at h ⊢
    show ({ σ with rs := (tHold C σ.now q.cl q.sz q.legs σ.rs).1 } : Sg) = σ
    rw [tHold_no (by rw [← hoR_code]; exact h)]
  rw [if_neg c1] at h ⊢
  by_cases c2 : q.op = 2
  · rw [if_pos c2] at h ⊢; exact mvS_no tConfirm_no h
  rw [if_neg c2] at h ⊢
  by_cases c3 : q.op = 3
  · rw [if_pos c3] at h ⊢; exact mvS_no tCancel_no h
  rw [if_neg c3] at h ⊢
  by_cases c4 : q.op = 4
  · rw [if_pos c4] at h ⊢; exact mvS_no tArrive_no h
  rw [if_neg c4] at h ⊢
  by_cases c5 : q.op = 5
  · rw [if_pos c5] at h ⊢; exact mvS_no tRebook_no h
  rw [if_neg c5] at h ⊢
  by_cases c6 : q.op = 6
  · rw [if_pos c6] at h ⊢
    have := tJoin_no (by rw [← joR_code (q := q)]; exact h)
    show ({ σ with rs := (tJoin C q.at' q.cl q.sz σ.rs σ.ls).rs, ls := (tJoin C q.at' q.cl q.sz σ.rs σ.ls).ls } : Sg) = σ
    rw [this.1, this.2]
  rw [if_neg c6] at h ⊢
  by_cases c7 : q.op = 7
  · rw [if_pos c7] at h ⊢
    have h' : (mvR q.op (tLeave q.id σ.rs σ.ls).2.2 (rget (tLeave q.id σ.rs σ.ls).1 q.id).st).code ≠ 0 := h
    rw [mvR_code] at h'
    have := tLeave_no h'
    show ({ σ with rs := (tLeave q.id σ.rs σ.ls).1, ls := (tLeave q.id σ.rs σ.ls).2.1 } : Sg) = σ
    rw [this.1, this.2]
  rw [if_neg c7] at h ⊢
  by_cases c8 : q.op = 8
  · rw [if_pos c8] at h ⊢; exact mvS_no tArrive_no h
  rw [if_neg c8] at h ⊢
  by_cases c9 : q.op = 9
  · rw [if_pos c9] at h ⊢
    show tkS C σ = σ
    have h' : (tkR C q σ).code ≠ 0 := h
    unfold tkS
    unfold tkR at h'
    split
    · rfl
    · rename_i q2; rw [if_neg q2] at h'; exact absurd rfl h'
  rw [if_neg c9] at h ⊢
theorem apS_gd (cv : CV C) (g : Gd C σ.seq σ.now σ.rs σ.ls) (hv : valid C σ.now q = 0) (hq : σ.seq + 1 ≤ 9223372036854775807) (h0 : (apS C q σ).2.code = 0) : Gd C (σ.seq + 1) (apS C q σ).1.now (apS C q σ).1.rs (apS C q σ).1.ls := by
  unfold apS at h0 ⊢
  by_cases c1 : q.op = 1
  · rw [if_pos c1] at h0 ⊢
    obtain ⟨⟨v1, v2⟩, v3⟩ := valid_hold hv (.inl c1)
    have h' : (hoR C q σ).code = 0 := h0
    rw [hoR_code] at h'
    exact g.hold cv v1 v2 v3 hq h'
  rw [if_neg c1] at h0 ⊢
  by_cases c2 : q.op = 2
  · rw [if_pos c2]; exact g.confirm.up (by omega) hq
  rw [if_neg c2] at h0 ⊢
  by_cases c3 : q.op = 3
  · rw [if_pos c3]; exact g.cancel.up (by omega) hq
  rw [if_neg c3] at h0 ⊢
  by_cases c4 : q.op = 4
  · rw [if_pos c4]; exact (g.arrive (.inl rfl)).up (by omega) hq
  rw [if_neg c4] at h0 ⊢
  by_cases c5 : q.op = 5
  · rw [if_pos c5]; exact (g.rebook cv (valid_rebook hv c5)).up (by omega) hq
  rw [if_neg c5] at h0 ⊢
  by_cases c6 : q.op = 6
  · rw [if_pos c6]
    obtain ⟨v1, v2, v3⟩ := valid_join hv (.inl c6)
    exact g.join cv v1 v2 v3 hq
  rw [if_neg c6] at h0 ⊢
  by_cases c7 : q.op = 7
  · rw [if_pos c7]; exact g.leave.up (by omega) hq
  rw [if_neg c7] at h0 ⊢
  by_cases c8 : q.op = 8
  · rw [if_pos c8]; exact (g.arrive (.inr rfl)).up (by omega) hq
  rw [if_neg c8] at h0 ⊢
  by_cases c9 : q.op = 9
  · rw [if_pos c9] at h0 ⊢
    have h' : (tkR C q σ).code = 0 := h0
    unfold tkR at h'
    show Gd C (σ.seq + 1) (tkS C σ).now (tkS C σ).rs (tkS C σ).ls
    unfold tkS
    split
    · rename_i q2; rw [if_pos q2] at h'; exact absurd h' (show ¬ (11 : Int) = 0 by decide)
    · exact (g.serve cv).sweep (by omega) hq
  rw [if_neg c9] at h0
  exact absurd h0 (show ¬ (1 : Int) = 0 by decide)
end
/-- an entry is carried out again -/
def rplS (C : Cfg) (x : List Int) (σ : Sg) : Option Sg :=
  if (par x).2.2 = true ∧ (((par x).1 : Nat) : Int) = σ.seq + 1 ∧ isC (par x).2.1.op = true ∧ valid C σ.now (par x).2.1 = 0 ∧ (apS C (par x).2.1 σ).2.code = 0
  then some { (apS C (par x).2.1 σ).1 with seq := σ.seq + 1, sp := w1 (apS C (par x).2.1 σ).1.sp } else none
set_option maxRecDepth 100000 in
theorem fiRep0 : fiK Tryz.prog 46 0 = some 0 := by kernel_rfl
section
variable {F G M0 M M' S V : Nat → Prop} {w w' w0 w1 w4 : World} {v v' rv lv iv va vt env : Value} {l : List Value} {n wb e t b c pb : Nat} {C : Cfg} {K : Value → World → Prop} {m0 m m' m4 : Me} {σ σ' : Sg} {J J' : Jr} {q : Rq} {p : Rp} {x : List Int}
set_option maxHeartbeats 1000000 in
theorem replay_ok (cv : CV C) (g : Gd C σ.seq σ.now σ.rs σ.ls) (h : En M w e m C σ J) (hx : Ar bC 1 F w v x) (hF : ∀ b, F b → b < w.heap.size) (hB : By x)
    (hno : rplS C x σ = none → ∀ w' m' M' σ', Es M w e m C Emp w' M' m' σ' J → σ'.seq = σ.seq → K (.bool false) w')
    (hyes : ∀ σ', rplS C x σ = some σ' → ∀ w' M' m', Es M w e m C Emp w' M' m' σ' J → K (.bool true) w') : cl Tryz.prog 55 #[P e 0, v] K w := by
  have s0 := Es.start h
  apply c55
  unfold s55_p1
  refine par_ok hx hB hF fun w1 l1 hk1 hq1 => ?_
  unfold rplS at hno hyes
  have hpx := fun h => par_x (bs := x) h
  generalize hpn : (par x).1 = pn at *
  generalize hpq : (par x).2.1 = q at *
  generalize hpk : (par x).2.2 = pk at *
  have hnn : N63 ((pn : Nat) : Int) := by
    cases pk with
    | true => exact (hpx rfl).2
    | false =>
      rw [← hpn]
      unfold par at hpk ⊢
      split
      · exact ⟨by decide, by decide⟩
      · exact rNum_N _
  obtain ⟨lv, rfl, hl1⟩ := hq1
  have hsc := hl1.scal
  simp only [ex3_0, ex3_1, ex3_2]
  refine nw_r fun w2 r2 hk2 hz2 => ?_
  refine stn_r (cs := q.cells lv) r2 rfl (show 0 + 8 ≤ 8 by decide) (by unfold Rq.cells; simp only [List.all_cons, List.all_nil, hsc]; rfl) fun w3 r3 hk3 hz3 => ?_
  replace r3 : Row w3 w1.heap.size 49 (q.cells lv) := r3
  have s3 := ((s0.emp hk1).new hk2 (Nat.le_refl _) (by omega)).wr hk3 fun b (q : b = _) => .inr q
  have s1z := hk1.size
  have k3 : Kp Emp w w3 := (hk1.trans hk2).then hk3 fun k hk (q : k = _) => by omega
  have hl3 : Ar lC 2 (Nb w w1) w3 lv q.legs := (hl1.kp' hk2).kp hk3 fun b hb (q : b = _) => by have := hb.2; omega
  have em : ∀ {w' : World} {M' : Nat → Prop} {m' : Me} {σ' : Sg} {V : Nat → Prop}, Es M w e m C V w' M' m' σ' J → Es M w e m C Emp w' M' m' σ' J := fun s => ⟨s.x, s.k, s.j, s.o, s.en, fun c q => q.elim⟩
  obtain ⟨va, vt, env, re⟩ := s3.row
  have hsq := g.sq
  have hseq := g.seq
  have hnow := g.now
  cases pk with
  | false =>
    simp only [Bool.not_false, e_fd, e_nck, e_pkt, e_pkf, e_gdtt, e_gdtf, e_gdft, e_gdff, e_ift, e_iff, e_not, e_ln, e_lnT, e_cp, e_cvi, e_ex20, e_ex21, e_ex30, e_ex31, e_ex32, e_add, e_sub, e_mul, e_quo, e_rem, e_and, e_or, e_xor, e_shl, e_shr, e_eql, e_neq, e_lss, e_leq, e_gtr, e_geq, e_beq, e_bne, e_peq1, e_peq2, e_pne1, e_pne2, e_zeq1, e_zeq2, e_zne1, e_zne2, e_feq1, e_fne1, e_feq2, e_fne2, e_seq, e_sne, e_ta1, e_ta2, Nat.zero_add, Nat.add_zero, Bool.not_true, Bool.not_false]
    exact hno (by rw [if_neg (by simp)]) w3 _ _ σ (em s3) rfl
  | true =>
    obtain ⟨hN, _⟩ := hpx rfl
    simp only [Bool.not_true, e_fd, e_nck, e_pkt, e_pkf, e_gdtt, e_gdtf, e_gdft, e_gdff, e_ift, e_iff, e_not, e_ln, e_lnT, e_cp, e_cvi, e_ex20, e_ex21, e_ex30, e_ex31, e_ex32, e_add, e_sub, e_mul, e_quo, e_rem, e_and, e_or, e_xor, e_shl, e_shr, e_eql, e_neq, e_lss, e_leq, e_gtr, e_geq, e_beq, e_bne, e_peq1, e_peq2, e_pne1, e_pne2, e_zeq1, e_zeq2, e_zne1, e_zne2, e_feq1, e_fne1, e_feq2, e_fne2, e_seq, e_sne, e_ta1, e_ta2, Nat.zero_add, Nat.add_zero, Bool.not_true, Bool.not_false]
    refine ld1_r re rfl ?_
    simp only [nei, e_fd, e_nck, e_pkt, e_pkf, e_gdtt, e_gdtf, e_gdft, e_gdff, e_ift, e_iff, e_not, e_ln, e_lnT, e_cp, e_cvi, e_ex20, e_ex21, e_ex30, e_ex31, e_ex32, e_add, e_sub, e_mul, e_quo, e_rem, e_and, e_or, e_xor, e_shl, e_shr, e_eql, e_neq, e_lss, e_leq, e_gtr, e_geq, e_beq, e_bne, e_peq1, e_peq2, e_pne1, e_pne2, e_zeq1, e_zeq2, e_zne1, e_zne2, e_feq1, e_fne1, e_feq2, e_fne2, e_seq, e_sne, e_ta1, e_ta2, Nat.zero_add, Nat.add_zero, Bool.not_true, Bool.not_false]
    have ew : (((pn : Nat) : Int) = IntKind.i64.wrap (σ.seq + 1)) ↔ ((pn : Nat) : Int) = σ.seq + 1 := by
      by_cases hm : σ.seq + 1 ≤ 9223372036854775807
      · rw [wrap64_id (by omega) hm]
      · have e1 : σ.seq = 9223372036854775807 := by omega
        rw [e1]
        have e2 : IntKind.i64.wrap (9223372036854775807 + 1) = -9223372036854775808 := by decide
        rw [e2]
        have := hnn.2
        omega
    by_cases hs : ((pn : Nat) : Int) = σ.seq + 1
    · have e5 : decide (((pn : Nat) : Int) = IntKind.i64.wrap (σ.seq + 1)) = true := decide_eq_true (ew.2 hs)
      simp only [e5, Bool.not_true, e_fd, e_nck, e_pkt, e_pkf, e_gdtt, e_gdtf, e_gdft, e_gdff, e_ift, e_iff, e_not, e_ln, e_lnT, e_cp, e_cvi, e_ex20, e_ex21, e_ex30, e_ex31, e_ex32, e_add, e_sub, e_mul, e_quo, e_rem, e_and, e_or, e_xor, e_shl, e_shr, e_eql, e_neq, e_lss, e_leq, e_gtr, e_geq, e_beq, e_bne, e_peq1, e_peq2, e_pne1, e_pne2, e_zeq1, e_zeq2, e_zne1, e_zne2, e_feq1, e_fne1, e_feq2, e_fne2, e_seq, e_sne, e_ta1, e_ta2, Nat.zero_add, Nat.add_zero, Bool.not_true, Bool.not_false]
      refine ld1_r r3 rfl ?_
      refine isC_ok ?_
      cases hc : isC q.op with
      | false =>
        simp only [Bool.not_false, e_fd, e_nck, e_pkt, e_pkf, e_gdtt, e_gdtf, e_gdft, e_gdff, e_ift, e_iff, e_not, e_ln, e_lnT, e_cp, e_cvi, e_ex20, e_ex21, e_ex30, e_ex31, e_ex32, e_add, e_sub, e_mul, e_quo, e_rem, e_and, e_or, e_xor, e_shl, e_shr, e_eql, e_neq, e_lss, e_leq, e_gtr, e_geq, e_beq, e_bne, e_peq1, e_peq2, e_pne1, e_pne2, e_zeq1, e_zeq2, e_zne1, e_zne2, e_feq1, e_fne1, e_feq2, e_fne2, e_seq, e_sne, e_ta1, e_ta2, Nat.zero_add, Nat.add_zero, Bool.not_true, Bool.not_false]
        exact hno (by rw [if_neg (by rw [hc]; simp)]) w3 _ _ σ (em s3) rfl
      | true =>
        simp only [Bool.not_true, e_fd, e_nck, e_pkt, e_pkf, e_gdtt, e_gdtf, e_gdft, e_gdff, e_ift, e_iff, e_not, e_ln, e_lnT, e_cp, e_cvi, e_ex20, e_ex21, e_ex30, e_ex31, e_ex32, e_add, e_sub, e_mul, e_quo, e_rem, e_and, e_or, e_xor, e_shl, e_shr, e_eql, e_neq, e_lss, e_leq, e_gtr, e_geq, e_beq, e_bne, e_peq1, e_peq2, e_pne1, e_pne2, e_zeq1, e_zeq2, e_zne1, e_zne2, e_feq1, e_fne1, e_feq2, e_fne2, e_seq, e_sne, e_ta1, e_ta2, Nat.zero_add, Nat.add_zero, Bool.not_true, Bool.not_false]
        have ldq : ∀ {w' : World} {X : Value → World → Prop}, Row w' w1.heap.size 49 (q.cells lv) → X (.agg (q.cells lv).toArray) w' → ldn 8 (P w1.heap.size 0) X w' := fun r hX => ldn_r r (show 0 + 8 ≤ 8 by decide) hX
        refine ldq r3 ?_
        refine validate_ok s3.en hnow.1 ⟨lv, rfl, hl3⟩ hN fun w4 hk4 => ?_
        have s4 := s3.emp hk4
        have r4 := hk4.row' r3
        simp only [nei, e_fd, e_nck, e_pkt, e_pkf, e_gdtt, e_gdtf, e_gdft, e_gdff, e_ift, e_iff, e_not, e_ln, e_lnT, e_cp, e_cvi, e_ex20, e_ex21, e_ex30, e_ex31, e_ex32, e_add, e_sub, e_mul, e_quo, e_rem, e_and, e_or, e_xor, e_shl, e_shr, e_eql, e_neq, e_lss, e_leq, e_gtr, e_geq, e_beq, e_bne, e_peq1, e_peq2, e_pne1, e_pne2, e_zeq1, e_zeq2, e_zne1, e_zne2, e_feq1, e_fne1, e_feq2, e_fne2, e_seq, e_sne, e_ta1, e_ta2, Nat.zero_add, Nat.add_zero, Bool.not_true, Bool.not_false]
        by_cases hv : valid C σ.now q = 0
        · simp only [hv, decide_true, Bool.not_true, e_fd, e_nck, e_pkt, e_pkf, e_gdtt, e_gdtf, e_gdft, e_gdff, e_ift, e_iff, e_not, e_ln, e_lnT, e_cp, e_cvi, e_ex20, e_ex21, e_ex30, e_ex31, e_ex32, e_add, e_sub, e_mul, e_quo, e_rem, e_and, e_or, e_xor, e_shl, e_shr, e_eql, e_neq, e_lss, e_leq, e_gtr, e_geq, e_beq, e_bne, e_peq1, e_peq2, e_pne1, e_pne2, e_zeq1, e_zeq2, e_zne1, e_zne2, e_feq1, e_fne1, e_feq2, e_fne2, e_seq, e_sne, e_ta1, e_ta2, Nat.zero_add, Nat.add_zero, Bool.not_true, Bool.not_false]
          refine ldq r4 ?_
          have hk1s := hk1.size
          refine apply_ok cv g s4.en ⟨lv, rfl, hl3.kp' hk4⟩ (fun b hb => by have := hb.2; have := hk4.size; omega) hN hv (s4.step fun w5 M5 m5 s5 hk5 l5 rv5 => ?_)
          have r5 := hk5.row r4 (s4.v _ (.inr rfl)).2.1
          have hl5 := rv5.len
          obtain ⟨iv, rvv, wv, el5, _⟩ := rv5
          refine fi_r (v := I (apS C q σ).2.code) fiRep0 (by rw [el5]; rfl) ?_
          simp only [nei, e_fd, e_nck, e_pkt, e_pkf, e_gdtt, e_gdtf, e_gdft, e_gdff, e_ift, e_iff, e_not, e_ln, e_lnT, e_cp, e_cvi, e_ex20, e_ex21, e_ex30, e_ex31, e_ex32, e_add, e_sub, e_mul, e_quo, e_rem, e_and, e_or, e_xor, e_shl, e_shr, e_eql, e_neq, e_lss, e_leq, e_gtr, e_geq, e_beq, e_bne, e_peq1, e_peq2, e_pne1, e_pne2, e_zeq1, e_zeq2, e_zne1, e_zne2, e_feq1, e_fne1, e_feq2, e_fne2, e_seq, e_sne, e_ta1, e_ta2, Nat.zero_add, Nat.add_zero, Bool.not_true, Bool.not_false]
          by_cases h4 : (apS C q σ).2.code = 0
          · simp only [h4, decide_true, Bool.not_true, e_fd, e_nck, e_pkt, e_pkf, e_gdtt, e_gdtf, e_gdft, e_gdff, e_ift, e_iff, e_not, e_ln, e_lnT, e_cp, e_cvi, e_ex20, e_ex21, e_ex30, e_ex31, e_ex32, e_add, e_sub, e_mul, e_quo, e_rem, e_and, e_or, e_xor, e_shl, e_shr, e_eql, e_neq, e_lss, e_leq, e_gtr, e_geq, e_beq, e_bne, e_peq1, e_peq2, e_pne1, e_pne2, e_zeq1, e_zeq2, e_zne1, e_zne2, e_feq1, e_fne1, e_feq2, e_fne2, e_seq, e_sne, e_ta1, e_ta2, Nat.zero_add, Nat.add_zero, Bool.not_true, Bool.not_false]
            have hrf5 := s5.en.rf
            refine s5.st { (apS C q σ).1 with seq := σ.seq + 1 } (by decide) rfl (fun va vt env => by rw [← hs]; rfl) rfl ⟨rfl, rfl⟩ hrf5 fun w6 s6 hk6 hz6 => ?_
            obtain ⟨va6, vt6, env6, re6⟩ := s6.row
            try simp only [e_fd, e_nck, e_pkt, e_pkf, e_gdtt, e_gdtf, e_gdft, e_gdff, e_ift, e_iff, e_not, e_ln, e_lnT, e_cp, e_cvi, e_ex20, e_ex21, e_ex30, e_ex31, e_ex32, e_add, e_sub, e_mul, e_quo, e_rem, e_and, e_or, e_xor, e_shl, e_shr, e_eql, e_neq, e_lss, e_leq, e_gtr, e_geq, e_beq, e_bne, e_peq1, e_peq2, e_pne1, e_pne2, e_zeq1, e_zeq2, e_zne1, e_zne2, e_feq1, e_fne1, e_feq2, e_fne2, e_seq, e_sne, e_ta1, e_ta2, Nat.zero_add, Nat.add_zero, Bool.not_true, Bool.not_false]
            refine ld1_r re6 rfl ?_
            try simp only [e_fd, e_nck, e_pkt, e_pkf, e_gdtt, e_gdtf, e_gdft, e_gdff, e_ift, e_iff, e_not, e_ln, e_lnT, e_cp, e_cvi, e_ex20, e_ex21, e_ex30, e_ex31, e_ex32, e_add, e_sub, e_mul, e_quo, e_rem, e_and, e_or, e_xor, e_shl, e_shr, e_eql, e_neq, e_lss, e_leq, e_gtr, e_geq, e_beq, e_bne, e_peq1, e_peq2, e_pne1, e_pne2, e_zeq1, e_zeq2, e_zne1, e_zne2, e_feq1, e_fne1, e_feq2, e_fne2, e_seq, e_sne, e_ta1, e_ta2, Nat.zero_add, Nat.add_zero, Bool.not_true, Bool.not_false]
            refine s6.st { (apS C q σ).1 with seq := σ.seq + 1, sp := Go.Proofs.Qxb6500896aGreatDoor.w1 (apS C q σ).1.sp } (by decide) rfl (fun va vt env => rfl) rfl ⟨rfl, rfl⟩ hrf5 fun w7 s7 hk7 hz7 => ?_
            exact hyes _ (by rw [if_pos ⟨rfl, hs, hc, hv, h4⟩]) w7 _ _ (em s7)
          · simp only [h4, decide_false, Bool.not_false, e_fd, e_nck, e_pkt, e_pkf, e_gdtt, e_gdtf, e_gdft, e_gdff, e_ift, e_iff, e_not, e_ln, e_lnT, e_cp, e_cvi, e_ex20, e_ex21, e_ex30, e_ex31, e_ex32, e_add, e_sub, e_mul, e_quo, e_rem, e_and, e_or, e_xor, e_shl, e_shr, e_eql, e_neq, e_lss, e_leq, e_gtr, e_geq, e_beq, e_bne, e_peq1, e_peq2, e_pne1, e_pne2, e_zeq1, e_zeq2, e_zne1, e_zne2, e_feq1, e_fne1, e_feq2, e_fne2, e_seq, e_sne, e_ta1, e_ta2, Nat.zero_add, Nat.add_zero, Bool.not_true, Bool.not_false]
            exact hno (by rw [if_neg (by simp [h4])]) w5 _ _ _ (em s5) (by rw [apS_no h4])
        · simp only [hv, decide_false, Bool.not_false, e_fd, e_nck, e_pkt, e_pkf, e_gdtt, e_gdtf, e_gdft, e_gdff, e_ift, e_iff, e_not, e_ln, e_lnT, e_cp, e_cvi, e_ex20, e_ex21, e_ex30, e_ex31, e_ex32, e_add, e_sub, e_mul, e_quo, e_rem, e_and, e_or, e_xor, e_shl, e_shr, e_eql, e_neq, e_lss, e_leq, e_gtr, e_geq, e_beq, e_bne, e_peq1, e_peq2, e_pne1, e_pne2, e_zeq1, e_zeq2, e_zne1, e_zne2, e_feq1, e_fne1, e_feq2, e_fne2, e_seq, e_sne, e_ta1, e_ta2, Nat.zero_add, Nat.add_zero, Bool.not_true, Bool.not_false]
          exact hno (by rw [if_neg (by simp [hv])]) w4 _ _ σ (em s4) rfl
    · have hs' : ¬ ((pn : Nat) : Int) = IntKind.i64.wrap (σ.seq + 1) := fun q => hs (ew.1 q)
      simp only [hs', decide_false, Bool.not_false, e_fd, e_nck, e_pkt, e_pkf, e_gdtt, e_gdtf, e_gdft, e_gdff, e_ift, e_iff, e_not, e_ln, e_lnT, e_cp, e_cvi, e_ex20, e_ex21, e_ex30, e_ex31, e_ex32, e_add, e_sub, e_mul, e_quo, e_rem, e_and, e_or, e_xor, e_shl, e_shr, e_eql, e_neq, e_lss, e_leq, e_gtr, e_geq, e_beq, e_bne, e_peq1, e_peq2, e_pne1, e_pne2, e_zeq1, e_zeq2, e_zne1, e_zne2, e_feq1, e_fne1, e_feq2, e_fne2, e_seq, e_sne, e_ta1, e_ta2, Nat.zero_add, Nat.add_zero, Bool.not_true, Bool.not_false]
      exact hno (by rw [if_neg (by simp [hs])]) w3 _ _ σ (em s3) rfl
end
end Go.Proofs.Qxb6500896aGreatDoor
