import Derived.Test.Qxb6500896aGreatK64
namespace Go.Proofs.Qxb6500896aGreat
open Go.Sh Go.RowKit
set_option linter.unusedVariables false
set_option linter.unusedSimpArgs false

/-- the fullest of the first slots of a stay -/
def pkF (C : Cfg) (rs : List Rec) (a s : Int) : Nat → Int
  | 0 => inside C rs a s 0
  | k + 1 => if pkF C rs a s k < inside C rs a (s + ((k + 1 : Nat) : Int)) 0 then inside C rs a (s + ((k + 1 : Nat) : Int)) 0 else pkF C rs a s k
def qSlot (C : Cfg) (q : Rq) (σ : Sg) : Rp :=
  { rp0 with op := q.op, oc := inside C σ.rs q.at' q.sl 0, e0 := entered σ.rs q.at' q.sl 0 0, e1 := entered σ.rs q.at' q.sl 1 0, e2 := entered σ.rs q.at' q.sl 2 0, fr := (attOf C q.at').cap - pkF C σ.rs q.at' q.sl ((attOf C q.at').dw - 1).toNat }
theorem pkF_b {C : Cfg} {rs : List Rec} (hB : RBs rs) (hl : rs.length ≤ 16777216) (a s : Int) : ∀ k, 0 ≤ pkF C rs a s k ∧ pkF C rs a s k ≤ 144115188075855872
  | 0 => ins_b hB hl a s 0
  | k + 1 => by
    rw [pkF]
    split
    · exact ins_b hB hl _ _ 0
    · exact pkF_b hB hl a s k
section
variable {F G M0 M M' S V : Nat → Prop} {w w' w0 w1 w4 : World} {v v' rv lv iv va vt env wv : Value} {l l0 : List Value} {n wb e t b c pb j : Nat} {C : Cfg} {K : Value → World → Prop} {m0 m m' m4 : Me} {σ σ' : Sg} {J J' : Jr} {q : Rq} {p : Rp} {x : List Int} {lob : Option Nat}
/-- the engine's attraction -/
theorem En.att {X : Value → World → Prop} {T : Value → World → Prop} {n : Nat} (h : En M w e m C σ J) (hn : n < C.ats.length) (hX : X (.agg C.ats[n].cells.toArray) w) : ld1 (P e 0) (fun t w => ixs 5 t (I (n : Nat)) (fun p w => ldn 5 p X w) w) w := by
  obtain ⟨va, vt, env, r, hc, _⟩ := h.ex
  obtain ⟨va', vt', e1, ha, _⟩ := hc.ex
  have e2 : va' = va := by
    have := congrArg (fun l => l[0]?) e1
    simp [Cfg.cells] at this
    exact this.symm
  subst e2
  refine ld1_r (v := va') r rfl ?_
  refine ha.ix hn fun b o _ hcc => ?_
  exact hcc.ldn (Att.len _) hX
theorem tr_of_tb {rs : List Rec} {rob : Option Nat} (h : Tb M w t rob C rs) (hb : ∀ r ∈ rs, r.legs.length ≤ 1000000) : ∃ F, Tr F w t C rs := by
  obtain ⟨cl, rv, r, hc, its, e1, e2, e3, e4⟩ := h.ex
  have hil : its.length = rs.length := by rw [← e1, List.length_map]
  have := h.len
  refine ⟨fun _ => True, ⟨cl, rv, r, hc.mono fun _ _ => trivial, its, e1, e2.ar rC_len (by omega) fun _ _ => trivial, fun p hp => (e4 p hp).mono fun _ _ => trivial⟩, h.len⟩
set_option maxHeartbeats 2000000 in
theorem slotE_ok {a : Nat} (cv : CV C) (g : SGd C σ) (h : En M w e m C σ J) (ha : q.at' = (a : Nat)) (hal : a < C.ats.length) (hsl : 0 ≤ q.sl ∧ q.sl ≤ 4398046511104) (hsc : scal lv = true) (hK : QK w (qSlot C q σ) K) : cl Tryz.prog 219 #[P e 0, .agg (q.cells lv).toArray] K w := by
  have hb1 : ∀ r ∈ σ.rs, r.legs.length ≤ 1000000 := fun r hr => by have := (g.rn r hr).ll; omega
  have hRB := (g.ti cv).rb
  have tl := h.tb.len
  obtain ⟨⟨cp0, cp1⟩, ⟨dw0, dw1⟩, _⟩ := cv.at_ _ (List.getElem_mem hal)
  apply c219
  unfold s219_p16
  refine nw_r fun w1 r1 hk1 hz1 => ?_
  replace r1 : Row w1 w.heap.size 52 (q.cells lv) := r1
  refine nw_r fun w2 r2 hk2 hz2 => ?_
  replace r2 : Row w2 w1.heap.size 94 (rp0.cells nilS nilS nilS) := r2
  have r12 := hk2.row' r1
  have k2 := hk1.trans hk2
  unfold s219_p15 s219_p15_d
  have kd : Kp Emp w2 (drw w2) := kp_drw
  have szd : (drw w2).heap.size = w2.heap.size := rfl
  generalize drw w2 = w3 at kd szd ⊢
  have k3 := k2.trans kd
  have h3 := h.kp' k3
  obtain ⟨va, vt, env, r, _⟩ := h3.ex
  have q3 := kd.row' r12
  have p3 := kd.row' r2
  unfold qSlot at hK
  rw [ha, attOf_at hal] at hK
  have eq2 : (q.cells lv)[2]? = some (I (a : Nat)) := by rw [← ha]; rfl
  try simp only [e_fd, e_nck, e_pkt, e_pkf, e_gdtt, e_gdtf, e_gdft, e_gdff, e_ift, e_iff, e_not, e_ln, e_lnT, e_cp, e_cvi, e_ex20, e_ex21, e_ex30, e_ex31, e_ex32, e_add, e_sub, e_mul, e_quo, e_rem, e_and, e_or, e_xor, e_shl, e_shr, e_eql, e_neq, e_lss, e_leq, e_gtr, e_geq, e_beq, e_bne, e_peq1, e_peq2, e_pne1, e_pne2, e_zeq1, e_zeq2, e_zne1, e_zne2, e_feq1, e_fne1, e_feq2, e_fne2, e_seq, e_sne, e_ta1, e_ta2, Nat.zero_add, Nat.add_zero, Bool.not_true, Bool.not_false]
  refine ld1_r q3 rfl ?_
  try simp only [e_fd, e_nck, e_pkt, e_pkf, e_gdtt, e_gdtf, e_gdft, e_gdff, e_ift, e_iff, e_not, e_ln, e_lnT, e_cp, e_cvi, e_ex20, e_ex21, e_ex30, e_ex31, e_ex32, e_add, e_sub, e_mul, e_quo, e_rem, e_and, e_or, e_xor, e_shl, e_shr, e_eql, e_neq, e_lss, e_leq, e_gtr, e_geq, e_beq, e_bne, e_peq1, e_peq2, e_pne1, e_pne2, e_zeq1, e_zeq2, e_zne1, e_zne2, e_feq1, e_fne1, e_feq2, e_fne2, e_seq, e_sne, e_ta1, e_ta2, Nat.zero_add, Nat.add_zero, Bool.not_true, Bool.not_false]
  refine ld1_r r rfl ?_
  try simp only [e_fd, e_nck, e_pkt, e_pkf, e_gdtt, e_gdtf, e_gdft, e_gdff, e_ift, e_iff, e_not, e_ln, e_lnT, e_cp, e_cvi, e_ex20, e_ex21, e_ex30, e_ex31, e_ex32, e_add, e_sub, e_mul, e_quo, e_rem, e_and, e_or, e_xor, e_shl, e_shr, e_eql, e_neq, e_lss, e_leq, e_gtr, e_geq, e_beq, e_bne, e_peq1, e_peq2, e_pne1, e_pne2, e_zeq1, e_zeq2, e_zne1, e_zne2, e_feq1, e_fne1, e_feq2, e_fne2, e_seq, e_sne, e_ta1, e_ta2, Nat.zero_add, Nat.add_zero, Bool.not_true, Bool.not_false]
  refine ld1_r q3 eq2 ?_
  try simp only [e_fd, e_nck, e_pkt, e_pkf, e_gdtt, e_gdtf, e_gdft, e_gdff, e_ift, e_iff, e_not, e_ln, e_lnT, e_cp, e_cvi, e_ex20, e_ex21, e_ex30, e_ex31, e_ex32, e_add, e_sub, e_mul, e_quo, e_rem, e_and, e_or, e_xor, e_shl, e_shr, e_eql, e_neq, e_lss, e_leq, e_gtr, e_geq, e_beq, e_bne, e_peq1, e_peq2, e_pne1, e_pne2, e_zeq1, e_zeq2, e_zne1, e_zne2, e_feq1, e_fne1, e_feq2, e_fne2, e_seq, e_sne, e_ta1, e_ta2, Nat.zero_add, Nat.add_zero, Bool.not_true, Bool.not_false]
  refine ld1_r q3 rfl ?_
  have occ : ∀ {w4 : World} {x : Int} {X : Value → World → Prop}, Kp Emp w w4 → (∀ w', Kp Emp w4 w' → X (I (inside C σ.rs (a : Nat) x 0)) w') → cl Tryz.prog 198 #[P m.t 0, I (a : Nat), I x] X w4 := fun k4 hX => by
    obtain ⟨F, tr⟩ := tr_of_tb (h.kp' k4).tb hb1
    exact occ_ok hal cv.dw tr hRB hX
  have entd : ∀ {w4 : World} {x y : Int} {X : Value → World → Prop}, Kp Emp w w4 → (∀ w', Kp Emp w4 w' → X (I (entered σ.rs (a : Nat) x y 0)) w') → cl Tryz.prog 199 #[P m.t 0, I (a : Nat), I x, I y] X w4 := fun k4 hX => by
    obtain ⟨F, tr⟩ := tr_of_tb (h.kp' k4).tb hb1
    exact ent_ok tr hRB hX
  generalize hoc : inside C σ.rs (a : Nat) q.sl 0 = oc at hK
  -- what follows when the answer's variable lies ready
  have rest : ∀ w4 rb, Kp Emp w w4 → w3.heap.size ≤ rb → Row w4 w.heap.size 52 (q.cells lv) → Row w4 w1.heap.size 94 (rp0.cells nilS nilS nilS) → Row w4 rb 94 (({ rp0 with op := q.op, oc := oc } : Rp).cells nilS nilS nilS) → s219_p14 K (P e 0) (P w.heap.size 0) (P w1.heap.size 0) (P rb 0) w4 := by
    intro w4 rb k4 hrb q4 p4 r4
    unfold s219_p14 s219_p13
    generalize hE0 : entered σ.rs (a : Nat) q.sl 0 0 = E0 at hK
    generalize hE1 : entered σ.rs (a : Nat) q.sl 1 0 = E1 at hK
    generalize hE2 : entered σ.rs (a : Nat) q.sl 2 0 = E2 at hK
    refine loop_n 3 (fun i l w' => l = [P e 0, P w.heap.size 0, P w1.heap.size 0, P rb 0, I (i : Nat)] ∧ Kp Emp w w' ∧ w4.heap.size ≤ w'.heap.size ∧ Row w' w.heap.size 52 (q.cells lv) ∧ Row w' w1.heap.size 94 (rp0.cells nilS nilS nilS) ∧
      Row w' rb 94 (({ rp0 with op := q.op, oc := oc, e0 := if 0 < i then E0 else 0, e1 := if 1 < i then E1 else 0, e2 := if 2 < i then E2 else 0 } : Rp).cells nilS nilS nilS)) ⟨rfl, k4, Nat.le_refl _, q4, p4, r4⟩ ?_ ?_
    · rintro i l w5 hi ⟨rfl, k5, sz5, q5, p5, r5⟩ B hB
      rw [s219_p13_Fe]
      unfold s219_p12
      have e1 : ((i : Nat) : Int) < 3 := by omega
      simp only [e1, decide_true, e_fd, e_nck, e_pkt, e_pkf, e_gdtt, e_gdtf, e_gdft, e_gdff, e_ift, e_iff, e_not, e_ln, e_lnT, e_cp, e_cvi, e_ex20, e_ex21, e_ex30, e_ex31, e_ex32, e_add, e_sub, e_mul, e_quo, e_rem, e_and, e_or, e_xor, e_shl, e_shr, e_eql, e_neq, e_lss, e_leq, e_gtr, e_geq, e_beq, e_bne, e_peq1, e_peq2, e_pne1, e_pne2, e_zeq1, e_zeq2, e_zne1, e_zne2, e_feq1, e_fne1, e_feq2, e_fne2, e_seq, e_sne, e_ta1, e_ta2, Nat.zero_add, Nat.add_zero, Bool.not_true, Bool.not_false]
      unfold s219_p11 s219_p10 s219_p10_d
      have kd5 : Kp Emp w5 (drw w5) := kp_drw
      have szd5 : (drw w5).heap.size = w5.heap.size := rfl
      generalize drw w5 = w6 at kd5 szd5 ⊢
      have k6 := k5.trans kd5
      have q6 := kd5.row' q5
      have p6 := kd5.row' p5
      have r6 := kd5.row' r5
      obtain ⟨va6, vt6, env6, re6, _⟩ := (h.kp' k6).ex
      try simp only [e_fd, e_nck, e_pkt, e_pkf, e_gdtt, e_gdtf, e_gdft, e_gdff, e_ift, e_iff, e_not, e_ln, e_lnT, e_cp, e_cvi, e_ex20, e_ex21, e_ex30, e_ex31, e_ex32, e_add, e_sub, e_mul, e_quo, e_rem, e_and, e_or, e_xor, e_shl, e_shr, e_eql, e_neq, e_lss, e_leq, e_gtr, e_geq, e_beq, e_bne, e_peq1, e_peq2, e_pne1, e_pne2, e_zeq1, e_zeq2, e_zne1, e_zne2, e_feq1, e_fne1, e_feq2, e_fne2, e_seq, e_sne, e_ta1, e_ta2, Nat.zero_add, Nat.add_zero, Bool.not_true, Bool.not_false]
      refine ld1_r re6 rfl ?_
      try simp only [e_fd, e_nck, e_pkt, e_pkf, e_gdtt, e_gdtf, e_gdft, e_gdff, e_ift, e_iff, e_not, e_ln, e_lnT, e_cp, e_cvi, e_ex20, e_ex21, e_ex30, e_ex31, e_ex32, e_add, e_sub, e_mul, e_quo, e_rem, e_and, e_or, e_xor, e_shl, e_shr, e_eql, e_neq, e_lss, e_leq, e_gtr, e_geq, e_beq, e_bne, e_peq1, e_peq2, e_pne1, e_pne2, e_zeq1, e_zeq2, e_zne1, e_zne2, e_feq1, e_fne1, e_feq2, e_fne2, e_seq, e_sne, e_ta1, e_ta2, Nat.zero_add, Nat.add_zero, Bool.not_true, Bool.not_false]
      refine ld1_r q6 eq2 ?_
      try simp only [e_fd, e_nck, e_pkt, e_pkf, e_gdtt, e_gdtf, e_gdft, e_gdff, e_ift, e_iff, e_not, e_ln, e_lnT, e_cp, e_cvi, e_ex20, e_ex21, e_ex30, e_ex31, e_ex32, e_add, e_sub, e_mul, e_quo, e_rem, e_and, e_or, e_xor, e_shl, e_shr, e_eql, e_neq, e_lss, e_leq, e_gtr, e_geq, e_beq, e_bne, e_peq1, e_peq2, e_pne1, e_pne2, e_zeq1, e_zeq2, e_zne1, e_zne2, e_feq1, e_fne1, e_feq2, e_fne2, e_seq, e_sne, e_ta1, e_ta2, Nat.zero_add, Nat.add_zero, Bool.not_true, Bool.not_false]
      refine ld1_r q6 rfl ?_
      try simp only [e_fd, e_nck, e_pkt, e_pkf, e_gdtt, e_gdtf, e_gdft, e_gdff, e_ift, e_iff, e_not, e_ln, e_lnT, e_cp, e_cvi, e_ex20, e_ex21, e_ex30, e_ex31, e_ex32, e_add, e_sub, e_mul, e_quo, e_rem, e_and, e_or, e_xor, e_shl, e_shr, e_eql, e_neq, e_lss, e_leq, e_gtr, e_geq, e_beq, e_bne, e_peq1, e_peq2, e_pne1, e_pne2, e_zeq1, e_zeq2, e_zne1, e_zne2, e_feq1, e_fne1, e_feq2, e_fne2, e_seq, e_sne, e_ta1, e_ta2, Nat.zero_add, Nat.add_zero, Bool.not_true, Bool.not_false]
      refine ⟨⟨by omega, by omega⟩, ?_⟩
      have ei : ((i : Nat) : Int).toNat * 1 = i := by omega
      rw [ei, add_mk]
      refine entd k6 fun w7 hk7 => ?_
      refine st1_r (hk7.row' r6) (by simp [Rp.cells, rp0]; omega) rfl fun w8 r8 hk8 hz8 => ?_
      unfold s219_p9
      try simp only [e_fd, e_nck, e_pkt, e_pkf, e_gdtt, e_gdtf, e_gdft, e_gdff, e_ift, e_iff, e_not, e_ln, e_lnT, e_cp, e_cvi, e_ex20, e_ex21, e_ex30, e_ex31, e_ex32, e_add, e_sub, e_mul, e_quo, e_rem, e_and, e_or, e_xor, e_shl, e_shr, e_eql, e_neq, e_lss, e_leq, e_gtr, e_geq, e_beq, e_bne, e_peq1, e_peq2, e_pne1, e_pne2, e_zeq1, e_zeq2, e_zne1, e_zne2, e_feq1, e_fne1, e_feq2, e_fne2, e_seq, e_sne, e_ta1, e_ta2, Nat.zero_add, Nat.add_zero, Bool.not_true, Bool.not_false]
      rw [inc i (by omega)]
      have sz7 := hk7.size
      have ltr := r6.lt
      refine hB _ _ ⟨rfl, (k6.trans hk7).then hk8 fun k hk (q : k = _) => by have := k3.size; omega, by omega, hk8.row (hk7.row' q6) (show ¬ w.heap.size = _ by omega), hk8.row (hk7.row' p6) (show ¬ w1.heap.size = _ by omega), ?_⟩
      have hi3 : i = 0 ∨ i = 1 ∨ i = 2 := by omega
      rcases hi3 with rfl | rfl | rfl
      · have e0 : entered σ.rs (a : Nat) q.sl ((0 : Nat) : Int) 0 = E0 := hE0
        rw [e0] at r8; exact r8
      · have e0 : entered σ.rs (a : Nat) q.sl ((1 : Nat) : Int) 0 = E1 := hE1
        rw [e0] at r8; exact r8
      · have e0 : entered σ.rs (a : Nat) q.sl ((2 : Nat) : Int) 0 = E2 := hE2
        rw [e0] at r8; exact r8
    · rintro l w5 ⟨rfl, k5, sz5, q5, p5, r5⟩ B
      replace r5 : Row w5 rb 94 (({ rp0 with op := q.op, oc := oc, e0 := E0, e1 := E1, e2 := E2 } : Rp).cells nilS nilS nilS) := r5
      rw [s219_p13_Fe]
      unfold s219_p12
      have e1 : ¬ ((3 : Nat) : Int) < 3 := by decide
      simp only [e1, decide_false, e_fd, e_nck, e_pkt, e_pkf, e_gdtt, e_gdtf, e_gdft, e_gdff, e_ift, e_iff, e_not, e_ln, e_lnT, e_cp, e_cvi, e_ex20, e_ex21, e_ex30, e_ex31, e_ex32, e_add, e_sub, e_mul, e_quo, e_rem, e_and, e_or, e_xor, e_shl, e_shr, e_eql, e_neq, e_lss, e_leq, e_gtr, e_geq, e_beq, e_bne, e_peq1, e_peq2, e_pne1, e_pne2, e_zeq1, e_zeq2, e_zne1, e_zne2, e_feq1, e_fne1, e_feq2, e_fne2, e_seq, e_sne, e_ta1, e_ta2, Nat.zero_add, Nat.add_zero, Bool.not_true, Bool.not_false]
      unfold s219_p8 s219_p8_d
      have kd5 : Kp Emp w5 (drw w5) := kp_drw
      have szd5 : (drw w5).heap.size = w5.heap.size := rfl
      generalize drw w5 = w6 at kd5 szd5 ⊢
      have k6 := k5.trans kd5
      have q6 := kd5.row' q5
      have p6 := kd5.row' p5
      have r6 := kd5.row' r5
      have ltr := r6.lt
      have ltp := p6.lt
      have ltq := q6.lt
      obtain ⟨va6, vt6, env6, re6, hc6, _⟩ := (h.kp' k6).ex
      obtain ⟨va', vt', e1', ha6, _⟩ := hc6.ex
      have e2 : va' = va6 := by
        have := congrArg (fun l => l[0]?) e1'
        simp [Cfg.cells] at this
        exact this.symm
      subst e2
      try simp only [e_fd, e_nck, e_pkt, e_pkf, e_gdtt, e_gdtf, e_gdft, e_gdff, e_ift, e_iff, e_not, e_ln, e_lnT, e_cp, e_cvi, e_ex20, e_ex21, e_ex30, e_ex31, e_ex32, e_add, e_sub, e_mul, e_quo, e_rem, e_and, e_or, e_xor, e_shl, e_shr, e_eql, e_neq, e_lss, e_leq, e_gtr, e_geq, e_beq, e_bne, e_peq1, e_peq2, e_pne1, e_pne2, e_zeq1, e_zeq2, e_zne1, e_zne2, e_feq1, e_fne1, e_feq2, e_fne2, e_seq, e_sne, e_ta1, e_ta2, Nat.zero_add, Nat.add_zero, Bool.not_true, Bool.not_false]
      refine ld1_r (v := va') re6 rfl ?_
      try simp only [e_fd, e_nck, e_pkt, e_pkf, e_gdtt, e_gdtf, e_gdft, e_gdff, e_ift, e_iff, e_not, e_ln, e_lnT, e_cp, e_cvi, e_ex20, e_ex21, e_ex30, e_ex31, e_ex32, e_add, e_sub, e_mul, e_quo, e_rem, e_and, e_or, e_xor, e_shl, e_shr, e_eql, e_neq, e_lss, e_leq, e_gtr, e_geq, e_beq, e_bne, e_peq1, e_peq2, e_pne1, e_pne2, e_zeq1, e_zeq2, e_zne1, e_zne2, e_feq1, e_fne1, e_feq2, e_fne2, e_seq, e_sne, e_ta1, e_ta2, Nat.zero_add, Nat.add_zero, Bool.not_true, Bool.not_false]
      refine ld1_r q6 eq2 ?_
      refine ha6.ix hal fun b o _ hcc => ?_
      refine hcc.ldn (Att.len _) ?_
      refine nw_r fun w7 r7 hk7 hz7 => ⟨hk7.below', ?_⟩
      refine stn_r (cs := C.ats[a].cells) r7 rfl (show 0 + 5 ≤ 5 by decide) (Att.sc _) fun w8 r8 hk8 hz8 => ?_
      replace r8 : Row w8 w6.heap.size 113 C.ats[a].cells := r8
      have k68 : Kp Emp w6 w8 := hk7.then hk8 fun k hk (q : k = _) => by omega
      have k8 := k6.trans k68
      unfold s219_p7
      try simp only [e_fd, e_nck, e_pkt, e_pkf, e_gdtt, e_gdtf, e_gdft, e_gdff, e_ift, e_iff, e_not, e_ln, e_lnT, e_cp, e_cvi, e_ex20, e_ex21, e_ex30, e_ex31, e_ex32, e_add, e_sub, e_mul, e_quo, e_rem, e_and, e_or, e_xor, e_shl, e_shr, e_eql, e_neq, e_lss, e_leq, e_gtr, e_geq, e_beq, e_bne, e_peq1, e_peq2, e_pne1, e_pne2, e_zeq1, e_zeq2, e_zne1, e_zne2, e_feq1, e_fne1, e_feq2, e_fne2, e_seq, e_sne, e_ta1, e_ta2, Nat.zero_add, Nat.add_zero, Bool.not_true, Bool.not_false]
      refine ld1_r (k68.row' r6) rfl ?_
      try simp only [e_fd, e_nck, e_pkt, e_pkf, e_gdtt, e_gdtf, e_gdft, e_gdff, e_ift, e_iff, e_not, e_ln, e_lnT, e_cp, e_cvi, e_ex20, e_ex21, e_ex30, e_ex31, e_ex32, e_add, e_sub, e_mul, e_quo, e_rem, e_and, e_or, e_xor, e_shl, e_shr, e_eql, e_neq, e_lss, e_leq, e_gtr, e_geq, e_beq, e_bne, e_peq1, e_peq2, e_pne1, e_pne2, e_zeq1, e_zeq2, e_zne1, e_zne2, e_feq1, e_fne1, e_feq2, e_fne2, e_seq, e_sne, e_ta1, e_ta2, Nat.zero_add, Nat.add_zero, Bool.not_true, Bool.not_false]
      refine ld1_r (k68.row' q6) rfl ?_
      try simp only [e_fd, e_nck, e_pkt, e_pkf, e_gdtt, e_gdtf, e_gdft, e_gdff, e_ift, e_iff, e_not, e_ln, e_lnT, e_cp, e_cvi, e_ex20, e_ex21, e_ex30, e_ex31, e_ex32, e_add, e_sub, e_mul, e_quo, e_rem, e_and, e_or, e_xor, e_shl, e_shr, e_eql, e_neq, e_lss, e_leq, e_gtr, e_geq, e_beq, e_bne, e_peq1, e_peq2, e_pne1, e_pne2, e_zeq1, e_zeq2, e_zne1, e_zne2, e_feq1, e_fne1, e_feq2, e_fne2, e_seq, e_sne, e_ta1, e_ta2, Nat.zero_add, Nat.add_zero, Bool.not_true, Bool.not_false]
      rw [wrap64_id (by omega) (by omega)]
      unfold s219_p6
      refine loop_n (C.ats[a].dw - 1).toNat (fun i l w' => l = [P e 0, P w.heap.size 0, P w1.heap.size 0, P rb 0, P w6.heap.size 0, I (pkF C σ.rs (a : Nat) q.sl i), I (q.sl + 1 + (i : Nat))] ∧ Kp Emp w8 w') ⟨by rw [pkF, hoc]; simp, Kp.refl _ _⟩ ?_ ?_
      · rintro i l w9 hi ⟨rfl, k9⟩ B hB
        rw [s219_p6_Fe]
        unfold s219_p5
        try simp only [e_fd, e_nck, e_pkt, e_pkf, e_gdtt, e_gdtf, e_gdft, e_gdff, e_ift, e_iff, e_not, e_ln, e_lnT, e_cp, e_cvi, e_ex20, e_ex21, e_ex30, e_ex31, e_ex32, e_add, e_sub, e_mul, e_quo, e_rem, e_and, e_or, e_xor, e_shl, e_shr, e_eql, e_neq, e_lss, e_leq, e_gtr, e_geq, e_beq, e_bne, e_peq1, e_peq2, e_pne1, e_pne2, e_zeq1, e_zeq2, e_zne1, e_zne2, e_feq1, e_fne1, e_feq2, e_fne2, e_seq, e_sne, e_ta1, e_ta2, Nat.zero_add, Nat.add_zero, Bool.not_true, Bool.not_false]
        refine ld1_r (k9.row' (k68.row' q6)) rfl ?_
        try simp only [e_fd, e_nck, e_pkt, e_pkf, e_gdtt, e_gdtf, e_gdft, e_gdff, e_ift, e_iff, e_not, e_ln, e_lnT, e_cp, e_cvi, e_ex20, e_ex21, e_ex30, e_ex31, e_ex32, e_add, e_sub, e_mul, e_quo, e_rem, e_and, e_or, e_xor, e_shl, e_shr, e_eql, e_neq, e_lss, e_leq, e_gtr, e_geq, e_beq, e_bne, e_peq1, e_peq2, e_pne1, e_pne2, e_zeq1, e_zeq2, e_zne1, e_zne2, e_feq1, e_fne1, e_feq2, e_fne2, e_seq, e_sne, e_ta1, e_ta2, Nat.zero_add, Nat.add_zero, Bool.not_true, Bool.not_false]
        refine ld1_r (k9.row' r8) rfl ?_
        try simp only [e_fd, e_nck, e_pkt, e_pkf, e_gdtt, e_gdtf, e_gdft, e_gdff, e_ift, e_iff, e_not, e_ln, e_lnT, e_cp, e_cvi, e_ex20, e_ex21, e_ex30, e_ex31, e_ex32, e_add, e_sub, e_mul, e_quo, e_rem, e_and, e_or, e_xor, e_shl, e_shr, e_eql, e_neq, e_lss, e_leq, e_gtr, e_geq, e_beq, e_bne, e_peq1, e_peq2, e_pne1, e_pne2, e_zeq1, e_zeq2, e_zne1, e_zne2, e_feq1, e_fne1, e_feq2, e_fne2, e_seq, e_sne, e_ta1, e_ta2, Nat.zero_add, Nat.add_zero, Bool.not_true, Bool.not_false]
        rw [wrap64_id (by omega) (by omega)]
        have e3 : q.sl + 1 + ((i : Nat) : Int) < q.sl + C.ats[a].dw := by omega
        simp only [e3, decide_true, e_fd, e_nck, e_pkt, e_pkf, e_gdtt, e_gdtf, e_gdft, e_gdff, e_ift, e_iff, e_not, e_ln, e_lnT, e_cp, e_cvi, e_ex20, e_ex21, e_ex30, e_ex31, e_ex32, e_add, e_sub, e_mul, e_quo, e_rem, e_and, e_or, e_xor, e_shl, e_shr, e_eql, e_neq, e_lss, e_leq, e_gtr, e_geq, e_beq, e_bne, e_peq1, e_peq2, e_pne1, e_pne2, e_zeq1, e_zeq2, e_zne1, e_zne2, e_feq1, e_fne1, e_feq2, e_fne2, e_seq, e_sne, e_ta1, e_ta2, Nat.zero_add, Nat.add_zero, Bool.not_true, Bool.not_false]
        unfold s219_p4 s219_p4_d
        have kd9 : Kp Emp w9 (drw w9) := kp_drw
        generalize drw w9 = w10 at kd9 ⊢
        have k10 := k9.trans kd9
        obtain ⟨va10, vt10, env10, re10, _⟩ := (h.kp' (k8.trans k10)).ex
        try simp only [e_fd, e_nck, e_pkt, e_pkf, e_gdtt, e_gdtf, e_gdft, e_gdff, e_ift, e_iff, e_not, e_ln, e_lnT, e_cp, e_cvi, e_ex20, e_ex21, e_ex30, e_ex31, e_ex32, e_add, e_sub, e_mul, e_quo, e_rem, e_and, e_or, e_xor, e_shl, e_shr, e_eql, e_neq, e_lss, e_leq, e_gtr, e_geq, e_beq, e_bne, e_peq1, e_peq2, e_pne1, e_pne2, e_zeq1, e_zeq2, e_zne1, e_zne2, e_feq1, e_fne1, e_feq2, e_fne2, e_seq, e_sne, e_ta1, e_ta2, Nat.zero_add, Nat.add_zero, Bool.not_true, Bool.not_false]
        refine ld1_r re10 rfl ?_
        try simp only [e_fd, e_nck, e_pkt, e_pkf, e_gdtt, e_gdtf, e_gdft, e_gdff, e_ift, e_iff, e_not, e_ln, e_lnT, e_cp, e_cvi, e_ex20, e_ex21, e_ex30, e_ex31, e_ex32, e_add, e_sub, e_mul, e_quo, e_rem, e_and, e_or, e_xor, e_shl, e_shr, e_eql, e_neq, e_lss, e_leq, e_gtr, e_geq, e_beq, e_bne, e_peq1, e_peq2, e_pne1, e_pne2, e_zeq1, e_zeq2, e_zne1, e_zne2, e_feq1, e_fne1, e_feq2, e_fne2, e_seq, e_sne, e_ta1, e_ta2, Nat.zero_add, Nat.add_zero, Bool.not_true, Bool.not_false]
        refine ld1_r (k10.row' (k68.row' q6)) eq2 ?_
        refine occ (k8.trans k10) fun w11 hk11 => ?_
        unfold s219_p3
        try simp only [e_fd, e_nck, e_pkt, e_pkf, e_gdtt, e_gdtf, e_gdft, e_gdff, e_ift, e_iff, e_not, e_ln, e_lnT, e_cp, e_cvi, e_ex20, e_ex21, e_ex30, e_ex31, e_ex32, e_add, e_sub, e_mul, e_quo, e_rem, e_and, e_or, e_xor, e_shl, e_shr, e_eql, e_neq, e_lss, e_leq, e_gtr, e_geq, e_beq, e_bne, e_peq1, e_peq2, e_pne1, e_pne2, e_zeq1, e_zeq2, e_zne1, e_zne2, e_feq1, e_fne1, e_feq2, e_fne2, e_seq, e_sne, e_ta1, e_ta2, Nat.zero_add, Nat.add_zero, Bool.not_true, Bool.not_false]
        have ex : q.sl + 1 + ((i : Nat) : Int) = q.sl + ((i + 1 : Nat) : Int) := by omega
        rw [ex]
        have ey : IntKind.i64.wrap (q.sl + ((i + 1 : Nat) : Int) + 1) = q.sl + 1 + ((i + 1 : Nat) : Int) := by rw [wrap64_id (by omega) (by omega)]; omega
        have epk : pkF C σ.rs (a : Nat) q.sl (i + 1) = if pkF C σ.rs (a : Nat) q.sl i < inside C σ.rs (a : Nat) (q.sl + ((i + 1 : Nat) : Int)) 0 then inside C σ.rs (a : Nat) (q.sl + ((i + 1 : Nat) : Int)) 0 else pkF C σ.rs (a : Nat) q.sl i := rfl
        by_cases h4 : pkF C σ.rs (a : Nat) q.sl i < inside C σ.rs (a : Nat) (q.sl + ((i + 1 : Nat) : Int)) 0
        · rw [if_pos h4] at epk
          simp only [h4, decide_true, e_fd, e_nck, e_pkt, e_pkf, e_gdtt, e_gdtf, e_gdft, e_gdff, e_ift, e_iff, e_not, e_ln, e_lnT, e_cp, e_cvi, e_ex20, e_ex21, e_ex30, e_ex31, e_ex32, e_add, e_sub, e_mul, e_quo, e_rem, e_and, e_or, e_xor, e_shl, e_shr, e_eql, e_neq, e_lss, e_leq, e_gtr, e_geq, e_beq, e_bne, e_peq1, e_peq2, e_pne1, e_pne2, e_zeq1, e_zeq2, e_zne1, e_zne2, e_feq1, e_fne1, e_feq2, e_fne2, e_seq, e_sne, e_ta1, e_ta2, Nat.zero_add, Nat.add_zero, Bool.not_true, Bool.not_false]
          unfold s219_p2
          simp only [ey, e_fd, e_nck, e_pkt, e_pkf, e_gdtt, e_gdtf, e_gdft, e_gdff, e_ift, e_iff, e_not, e_ln, e_lnT, e_cp, e_cvi, e_ex20, e_ex21, e_ex30, e_ex31, e_ex32, e_add, e_sub, e_mul, e_quo, e_rem, e_and, e_or, e_xor, e_shl, e_shr, e_eql, e_neq, e_lss, e_leq, e_gtr, e_geq, e_beq, e_bne, e_peq1, e_peq2, e_pne1, e_pne2, e_zeq1, e_zeq2, e_zne1, e_zne2, e_feq1, e_fne1, e_feq2, e_fne2, e_seq, e_sne, e_ta1, e_ta2, Nat.zero_add, Nat.add_zero, Bool.not_true, Bool.not_false]
          exact hB _ _ ⟨by rw [epk], k10.trans hk11⟩
        · rw [if_neg h4] at epk
          simp only [h4, decide_false, e_fd, e_nck, e_pkt, e_pkf, e_gdtt, e_gdtf, e_gdft, e_gdff, e_ift, e_iff, e_not, e_ln, e_lnT, e_cp, e_cvi, e_ex20, e_ex21, e_ex30, e_ex31, e_ex32, e_add, e_sub, e_mul, e_quo, e_rem, e_and, e_or, e_xor, e_shl, e_shr, e_eql, e_neq, e_lss, e_leq, e_gtr, e_geq, e_beq, e_bne, e_peq1, e_peq2, e_pne1, e_pne2, e_zeq1, e_zeq2, e_zne1, e_zne2, e_feq1, e_fne1, e_feq2, e_fne2, e_seq, e_sne, e_ta1, e_ta2, Nat.zero_add, Nat.add_zero, Bool.not_true, Bool.not_false]
          unfold s219_p2
          simp only [ey, e_fd, e_nck, e_pkt, e_pkf, e_gdtt, e_gdtf, e_gdft, e_gdff, e_ift, e_iff, e_not, e_ln, e_lnT, e_cp, e_cvi, e_ex20, e_ex21, e_ex30, e_ex31, e_ex32, e_add, e_sub, e_mul, e_quo, e_rem, e_and, e_or, e_xor, e_shl, e_shr, e_eql, e_neq, e_lss, e_leq, e_gtr, e_geq, e_beq, e_bne, e_peq1, e_peq2, e_pne1, e_pne2, e_zeq1, e_zeq2, e_zne1, e_zne2, e_feq1, e_fne1, e_feq2, e_fne2, e_seq, e_sne, e_ta1, e_ta2, Nat.zero_add, Nat.add_zero, Bool.not_true, Bool.not_false]
          exact hB _ _ ⟨by rw [epk], k10.trans hk11⟩
      · rintro l w9 ⟨rfl, k9⟩ B
        rw [s219_p6_Fe]
        unfold s219_p5
        try simp only [e_fd, e_nck, e_pkt, e_pkf, e_gdtt, e_gdtf, e_gdft, e_gdff, e_ift, e_iff, e_not, e_ln, e_lnT, e_cp, e_cvi, e_ex20, e_ex21, e_ex30, e_ex31, e_ex32, e_add, e_sub, e_mul, e_quo, e_rem, e_and, e_or, e_xor, e_shl, e_shr, e_eql, e_neq, e_lss, e_leq, e_gtr, e_geq, e_beq, e_bne, e_peq1, e_peq2, e_pne1, e_pne2, e_zeq1, e_zeq2, e_zne1, e_zne2, e_feq1, e_fne1, e_feq2, e_fne2, e_seq, e_sne, e_ta1, e_ta2, Nat.zero_add, Nat.add_zero, Bool.not_true, Bool.not_false]
        refine ld1_r (k9.row' (k68.row' q6)) rfl ?_
        try simp only [e_fd, e_nck, e_pkt, e_pkf, e_gdtt, e_gdtf, e_gdft, e_gdff, e_ift, e_iff, e_not, e_ln, e_lnT, e_cp, e_cvi, e_ex20, e_ex21, e_ex30, e_ex31, e_ex32, e_add, e_sub, e_mul, e_quo, e_rem, e_and, e_or, e_xor, e_shl, e_shr, e_eql, e_neq, e_lss, e_leq, e_gtr, e_geq, e_beq, e_bne, e_peq1, e_peq2, e_pne1, e_pne2, e_zeq1, e_zeq2, e_zne1, e_zne2, e_feq1, e_fne1, e_feq2, e_fne2, e_seq, e_sne, e_ta1, e_ta2, Nat.zero_add, Nat.add_zero, Bool.not_true, Bool.not_false]
        refine ld1_r (k9.row' r8) rfl ?_
        try simp only [e_fd, e_nck, e_pkt, e_pkf, e_gdtt, e_gdtf, e_gdft, e_gdff, e_ift, e_iff, e_not, e_ln, e_lnT, e_cp, e_cvi, e_ex20, e_ex21, e_ex30, e_ex31, e_ex32, e_add, e_sub, e_mul, e_quo, e_rem, e_and, e_or, e_xor, e_shl, e_shr, e_eql, e_neq, e_lss, e_leq, e_gtr, e_geq, e_beq, e_bne, e_peq1, e_peq2, e_pne1, e_pne2, e_zeq1, e_zeq2, e_zne1, e_zne2, e_feq1, e_fne1, e_feq2, e_fne2, e_seq, e_sne, e_ta1, e_ta2, Nat.zero_add, Nat.add_zero, Bool.not_true, Bool.not_false]
        rw [wrap64_id (by omega) (by omega)]
        have e3 : ¬ q.sl + 1 + (((C.ats[a].dw - 1).toNat : Nat) : Int) < q.sl + C.ats[a].dw := by omega
        simp only [e3, decide_false, e_fd, e_nck, e_pkt, e_pkf, e_gdtt, e_gdtf, e_gdft, e_gdff, e_ift, e_iff, e_not, e_ln, e_lnT, e_cp, e_cvi, e_ex20, e_ex21, e_ex30, e_ex31, e_ex32, e_add, e_sub, e_mul, e_quo, e_rem, e_and, e_or, e_xor, e_shl, e_shr, e_eql, e_neq, e_lss, e_leq, e_gtr, e_geq, e_beq, e_bne, e_peq1, e_peq2, e_pne1, e_pne2, e_zeq1, e_zeq2, e_zne1, e_zne2, e_feq1, e_fne1, e_feq2, e_fne2, e_seq, e_sne, e_ta1, e_ta2, Nat.zero_add, Nat.add_zero, Bool.not_true, Bool.not_false]
        unfold s219_p1
        try simp only [e_fd, e_nck, e_pkt, e_pkf, e_gdtt, e_gdtf, e_gdft, e_gdff, e_ift, e_iff, e_not, e_ln, e_lnT, e_cp, e_cvi, e_ex20, e_ex21, e_ex30, e_ex31, e_ex32, e_add, e_sub, e_mul, e_quo, e_rem, e_and, e_or, e_xor, e_shl, e_shr, e_eql, e_neq, e_lss, e_leq, e_gtr, e_geq, e_beq, e_bne, e_peq1, e_peq2, e_pne1, e_pne2, e_zeq1, e_zeq2, e_zne1, e_zne2, e_feq1, e_fne1, e_feq2, e_fne2, e_seq, e_sne, e_ta1, e_ta2, Nat.zero_add, Nat.add_zero, Bool.not_true, Bool.not_false]
        refine ld1_r (k9.row' r8) rfl ?_
        try simp only [e_fd, e_nck, e_pkt, e_pkf, e_gdtt, e_gdtf, e_gdft, e_gdff, e_ift, e_iff, e_not, e_ln, e_lnT, e_cp, e_cvi, e_ex20, e_ex21, e_ex30, e_ex31, e_ex32, e_add, e_sub, e_mul, e_quo, e_rem, e_and, e_or, e_xor, e_shl, e_shr, e_eql, e_neq, e_lss, e_leq, e_gtr, e_geq, e_beq, e_bne, e_peq1, e_peq2, e_pne1, e_pne2, e_zeq1, e_zeq2, e_zne1, e_zne2, e_feq1, e_fne1, e_feq2, e_fne2, e_seq, e_sne, e_ta1, e_ta2, Nat.zero_add, Nat.add_zero, Bool.not_true, Bool.not_false]
        have pb := pkF_b (C := C) hRB tl (a : Nat) q.sl (C.ats[a].dw - 1).toNat
        generalize pkF C σ.rs (a : Nat) q.sl (C.ats[a].dw - 1).toNat = pk at hK pb ⊢
        rw [wrap64_id (by omega) (by omega)]
        have k69 := k68.trans k9
        refine st1_r (k69.row' r6) (by simp [Rp.cells, rp0]) rfl fun w10 r10 hk10 hz10 => ?_
        replace r10 : Row w10 rb 94 (({ rp0 with op := q.op, oc := oc, e0 := E0, e1 := E1, e2 := E2, fr := C.ats[a].cap - pk } : Rp).cells nilS nilS nilS) := r10
        refine ldn_r r10 (show 0 + 34 ≤ 34 by decide) ?_
        have sz69 := k69.size
        have szw3 := k3.size
        refine rep_end (l := ({ rp0 with op := q.op, oc := oc, e0 := E0, e1 := E1, e2 := E2, fr := C.ats[a].cap - pk } : Rp).cells nilS nilS nilS) (hk10.row (k69.row' p6) (show ¬ w1.heap.size = _ by omega)) rfl rfl (Rp.sc rfl rfl rfl) fun w11 hk11 hz11 => ?_
        exact hK w11 _ (((k6.trans k69).then hk10 fun k hk (q : k = _) => by omega).then hk11 fun k hk (q : k = _) => by omega) (Rv.plain rfl rfl rfl rfl)
  refine ⟨?_, ?_⟩
  · refine occ k3 fun w4 hk4 => ⟨hk4.below', ?_⟩
    rw [hoc]
    have sz4 := hk4.size
    refine ⟨?_, ?_⟩
    · refine bdq_r (l := ({ rp0 with op := q.op, oc := oc } : Rp).cells nilS nilS nilS) rfl ?_
      refine nw_r fun w5 r5 hk5 hz5 => ⟨(hk4.trans hk5).below', ?_⟩
      refine stn_r (cs := ({ rp0 with op := q.op, oc := oc } : Rp).cells nilS nilS nilS) r5 rfl (show 0 + 34 ≤ 34 by decide) (Rp.sc rfl rfl rfl) fun w6 r6 hk6 hz6 => ?_
      have k45 := hk4.trans hk5
      exact rest w6 _ ((k3.trans k45).then hk6 fun k hk (q : k = _) => by omega) (by omega) (hk6.row (k45.row' q3) (show ¬ w.heap.size = _ by omega)) (hk6.row (k45.row' p3) (show ¬ w1.heap.size = _ by omega)) r6
    · refine nw_r fun w5 r5 hk5 hz5 => ⟨(hk4.trans hk5).below', ?_⟩
      refine bdq_r (l := ({ rp0 with op := q.op, oc := oc } : Rp).cells nilS nilS nilS) rfl ?_
      refine stn_r (cs := ({ rp0 with op := q.op, oc := oc } : Rp).cells nilS nilS nilS) r5 rfl (show 0 + 34 ≤ 34 by decide) (Rp.sc rfl rfl rfl) fun w6 r6 hk6 hz6 => ?_
      have k45 := hk4.trans hk5
      exact rest w6 _ ((k3.trans k45).then hk6 fun k hk (q : k = _) => by omega) (by omega) (hk6.row (k45.row' q3) (show ¬ w.heap.size = _ by omega)) (hk6.row (k45.row' p3) (show ¬ w1.heap.size = _ by omega)) r6
  · refine nw_r fun w4 r4 hk4 hz4 => ⟨hk4.below', ?_⟩
    refine occ (k3.trans hk4) fun w5 hk5 => ⟨(hk4.trans hk5).below', ?_⟩
    rw [hoc]
    have sz5 := hk5.size
    refine bdq_r (l := ({ rp0 with op := q.op, oc := oc } : Rp).cells nilS nilS nilS) rfl ?_
    refine stn_r (cs := ({ rp0 with op := q.op, oc := oc } : Rp).cells nilS nilS nilS) (hk5.row' r4) rfl (show 0 + 34 ≤ 34 by decide) (Rp.sc rfl rfl rfl) fun w6 r6 hk6 hz6 => ?_
    have k45 := hk4.trans hk5
    exact rest w6 _ ((k3.trans k45).then hk6 fun k hk (q : k = _) => by omega) (by omega) (hk6.row (k45.row' q3) (show ¬ w.heap.size = _ by omega)) (hk6.row (k45.row' p3) (show ¬ w1.heap.size = _ by omega)) r6
end
end Go.Proofs.Qxb6500896aGreat
