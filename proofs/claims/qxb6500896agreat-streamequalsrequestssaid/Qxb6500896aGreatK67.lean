import Derived.Test.Qxb6500896aGreatK66
namespace Go.Proofs.Qxb6500896aGreat
open Go.Sh Go.RowKit
set_option linter.unusedVariables false
set_option linter.unusedSimpArgs false

/-- the place in a line, and the visitors ahead -/
def plF (rs : List Rec) (id : Int) : List Int → Nat → Int → Option (Nat × Int)
  | [], _, _ => none
  | x :: l, i, ah => if x = id then some (i + 1, ah) else plF rs id l (i + 1) (ah + (rget rs x).sz)
def qPlace (q : Rq) (σ : Sg) : Rp :=
  if has σ.rs q.id then (if (rget σ.rs q.id).st = 7 then (match plF σ.rs q.id (lnOf σ.ls ((rget σ.rs q.id).ln - 1)) 0 0 with
    | some p => { rp0 with op := q.op, at' := (rget σ.rs q.id).ln - 1, pos := (p.1 : Nat), ah := p.2 }
    | none => rf 20) else rf 8) else rf 2
section
variable {F G M0 M M' S V : Nat → Prop} {w w' w0 w1 w4 : World} {v v' rv lv iv va vt env wv : Value} {l l0 : List Value} {n wb e t b c pb j : Nat} {C : Cfg} {K : Value → World → Prop} {m0 m m' m4 : Me} {σ σ' : Sg} {J J' : Jr} {q : Rq} {p : Rp} {x : List Int} {lob : Option Nat}
set_option maxHeartbeats 2000000 in
theorem placeE_ok (cv : CV C) (g : SGd C σ) (h : En M w e m C σ J) (hid : N63 q.id) (hsc : scal lv = true) (hK : QK w (qPlace q σ) K) : cl Tryz.prog 223 #[P e 0, .agg (q.cells lv).toArray] K w := by
  have hb1 : ∀ r ∈ σ.rs, r.legs.length ≤ 1000000 := fun r hr => by have := (g.rn r hr).ll; omega
  have hRB := (g.ti cv).rb
  have tl := h.tb.len
  apply c223
  unfold s223_p7
  refine nw_r fun w1 r1 hk1 hz1 => ?_
  replace r1 : Row w1 w.heap.size 52 (q.cells lv) := r1
  refine nw_r fun w2 r2 hk2 hz2 => ?_
  replace r2 : Row w2 w1.heap.size 94 (rp0.cells nilS nilS nilS) := r2
  have r12 := hk2.row' r1
  have k2 := hk1.trans hk2
  unfold s223_p6 s223_p6_d
  have kd : Kp Emp w2 (drw w2) := kp_drw
  have szd : (drw w2).heap.size = w2.heap.size := rfl
  generalize drw w2 = w3 at kd szd ⊢
  have k3 := k2.trans kd
  have h3 := h.kp' k3
  obtain ⟨va, vt, env, r, _⟩ := h3.ex
  have q3 := kd.row' r12
  have p3 := kd.row' r2
  try simp only [e_fd, e_nck, e_pkt, e_pkf, e_gdtt, e_gdtf, e_gdft, e_gdff, e_ift, e_iff, e_not, e_ln, e_lnT, e_cp, e_cvi, e_ex20, e_ex21, e_ex30, e_ex31, e_ex32, e_add, e_sub, e_mul, e_quo, e_rem, e_and, e_or, e_xor, e_shl, e_shr, e_eql, e_neq, e_lss, e_leq, e_gtr, e_geq, e_beq, e_bne, e_peq1, e_peq2, e_pne1, e_pne2, e_zeq1, e_zeq2, e_zne1, e_zne2, e_feq1, e_fne1, e_feq2, e_fne2, e_seq, e_sne, e_ta1, e_ta2, Nat.zero_add, Nat.add_zero, Bool.not_true, Bool.not_false]
  refine ld1_r r rfl ?_
  try simp only [e_fd, e_nck, e_pkt, e_pkf, e_gdtt, e_gdtf, e_gdft, e_gdff, e_ift, e_iff, e_not, e_ln, e_lnT, e_cp, e_cvi, e_ex20, e_ex21, e_ex30, e_ex31, e_ex32, e_add, e_sub, e_mul, e_quo, e_rem, e_and, e_or, e_xor, e_shl, e_shr, e_eql, e_neq, e_lss, e_leq, e_gtr, e_geq, e_beq, e_bne, e_peq1, e_peq2, e_pne1, e_pne2, e_zeq1, e_zeq2, e_zne1, e_zne2, e_feq1, e_fne1, e_feq2, e_fne2, e_seq, e_sne, e_ta1, e_ta2, Nat.zero_add, Nat.add_zero, Bool.not_true, Bool.not_false]
  refine ld1_r q3 rfl ?_
  unfold qPlace at hK
  have bad : ¬ has σ.rs q.id → ∀ w4 b, Kp Emp w3 w4 → s223_p5 K (P e 0) (P w.heap.size 0) (P w1.heap.size 0) b (.bool false) w4 := by
    intro hn w4 b hk4
    rw [if_neg hn] at hK
    unfold s223_p5
    simp only [Bool.not_false, e_fd, e_nck, e_pkt, e_pkf, e_gdtt, e_gdtf, e_gdft, e_gdff, e_ift, e_iff, e_not, e_ln, e_lnT, e_cp, e_cvi, e_ex20, e_ex21, e_ex30, e_ex31, e_ex32, e_add, e_sub, e_mul, e_quo, e_rem, e_and, e_or, e_xor, e_shl, e_shr, e_eql, e_neq, e_lss, e_leq, e_gtr, e_geq, e_beq, e_bne, e_peq1, e_peq2, e_pne1, e_pne2, e_zeq1, e_zeq2, e_zne1, e_zne2, e_feq1, e_fne1, e_feq2, e_fne2, e_seq, e_sne, e_ta1, e_ta2, Nat.zero_add, Nat.add_zero, Bool.not_true, Bool.not_false]
    exact ref_end (hk4.row' p3) rfl (k3.trans hk4) (by omega) fun w5 k5 rv5 => hK w5 _ k5 rv5
  have good : has σ.rs q.id → ∀ w4 b lv4, Kp Emp w3 w4 → w3.heap.size ≤ b → Row w4 b 85 (rC (rget σ.rs q.id, lv4)) → s223_p5 K (P e 0) (P w.heap.size 0) (P w1.heap.size 0) (P b 0) (.bool true) w4 := by
    intro hh w4 b lv4 hk4 hb4 r4
    rw [if_pos hh] at hK
    have hmem := (g.ids.rget hh).1
    have hrn := g.rn _ hmem
    have ln0 := hrn.ln
    unfold N63 at ln0
    have k4 := k3.trans hk4
    have q4 := hk4.row' q3
    have p4 := hk4.row' p3
    unfold s223_p5
    simp only [Bool.not_true, e_fd, e_nck, e_pkt, e_pkf, e_gdtt, e_gdtf, e_gdft, e_gdff, e_ift, e_iff, e_not, e_ln, e_lnT, e_cp, e_cvi, e_ex20, e_ex21, e_ex30, e_ex31, e_ex32, e_add, e_sub, e_mul, e_quo, e_rem, e_and, e_or, e_xor, e_shl, e_shr, e_eql, e_neq, e_lss, e_leq, e_gtr, e_geq, e_beq, e_bne, e_peq1, e_peq2, e_pne1, e_pne2, e_zeq1, e_zeq2, e_zne1, e_zne2, e_feq1, e_fne1, e_feq2, e_fne2, e_seq, e_sne, e_ta1, e_ta2, Nat.zero_add, Nat.add_zero, Bool.not_true, Bool.not_false]
    refine ld1_r r4 rfl ?_
    simp only [nei, e_fd, e_nck, e_pkt, e_pkf, e_gdtt, e_gdtf, e_gdft, e_gdff, e_ift, e_iff, e_not, e_ln, e_lnT, e_cp, e_cvi, e_ex20, e_ex21, e_ex30, e_ex31, e_ex32, e_add, e_sub, e_mul, e_quo, e_rem, e_and, e_or, e_xor, e_shl, e_shr, e_eql, e_neq, e_lss, e_leq, e_gtr, e_geq, e_beq, e_bne, e_peq1, e_peq2, e_pne1, e_pne2, e_zeq1, e_zeq2, e_zne1, e_zne2, e_feq1, e_fne1, e_feq2, e_fne2, e_seq, e_sne, e_ta1, e_ta2, Nat.zero_add, Nat.add_zero, Bool.not_true, Bool.not_false]
    by_cases h7 : (rget σ.rs q.id).st = 7
    · rw [if_pos h7] at hK
      simp only [h7, decide_true, Bool.not_true, e_fd, e_nck, e_pkt, e_pkf, e_gdtt, e_gdtf, e_gdft, e_gdff, e_ift, e_iff, e_not, e_ln, e_lnT, e_cp, e_cvi, e_ex20, e_ex21, e_ex30, e_ex31, e_ex32, e_add, e_sub, e_mul, e_quo, e_rem, e_and, e_or, e_xor, e_shl, e_shr, e_eql, e_neq, e_lss, e_leq, e_gtr, e_geq, e_beq, e_bne, e_peq1, e_peq2, e_pne1, e_pne2, e_zeq1, e_zeq2, e_zne1, e_zne2, e_feq1, e_fne1, e_feq2, e_fne2, e_seq, e_sne, e_ta1, e_ta2, Nat.zero_add, Nat.add_zero, Bool.not_true, Bool.not_false]
      refine ld1_r q4 rfl ?_
      try simp only [e_fd, e_nck, e_pkt, e_pkf, e_gdtt, e_gdtf, e_gdft, e_gdff, e_ift, e_iff, e_not, e_ln, e_lnT, e_cp, e_cvi, e_ex20, e_ex21, e_ex30, e_ex31, e_ex32, e_add, e_sub, e_mul, e_quo, e_rem, e_and, e_or, e_xor, e_shl, e_shr, e_eql, e_neq, e_lss, e_leq, e_gtr, e_geq, e_beq, e_bne, e_peq1, e_peq2, e_pne1, e_pne2, e_zeq1, e_zeq2, e_zne1, e_zne2, e_feq1, e_fne1, e_feq2, e_fne2, e_seq, e_sne, e_ta1, e_ta2, Nat.zero_add, Nat.add_zero, Bool.not_true, Bool.not_false]
      refine ld1_r r4 rfl ?_
      try simp only [e_fd, e_nck, e_pkt, e_pkf, e_gdtt, e_gdtf, e_gdft, e_gdff, e_ift, e_iff, e_not, e_ln, e_lnT, e_cp, e_cvi, e_ex20, e_ex21, e_ex30, e_ex31, e_ex32, e_add, e_sub, e_mul, e_quo, e_rem, e_and, e_or, e_xor, e_shl, e_shr, e_eql, e_neq, e_lss, e_leq, e_gtr, e_geq, e_beq, e_bne, e_peq1, e_peq2, e_pne1, e_pne2, e_zeq1, e_zeq2, e_zne1, e_zne2, e_feq1, e_fne1, e_feq2, e_fne2, e_seq, e_sne, e_ta1, e_ta2, Nat.zero_add, Nat.add_zero, Bool.not_true, Bool.not_false]
      rw [wrap64_id (by omega) (by omega)]
      have hw := g.tw _ hmem h7
      obtain ⟨a, hax⟩ : ∃ a : Nat, (rget σ.rs q.id).ln - 1 = a := ⟨((rget σ.rs q.id).ln - 1).toNat, by omega⟩
      have hal : a < σ.ls.length := by have := g.li.len; omega
      rw [hax] at hK ⊢
      rw [lnOf_at hal] at hK
      refine bdq_r (l := ({ rp0 with op := q.op, at' := ((a : Nat) : Int) } : Rp).cells nilS nilS nilS) rfl ?_
      refine nw_r fun w5 r5 hk5 hz5 => ?_
      refine stn_r (cs := ({ rp0 with op := q.op, at' := ((a : Nat) : Int) } : Rp).cells nilS nilS nilS) r5 rfl (show 0 + 34 ≤ 34 by decide) (Rp.sc rfl rfl rfl) fun w6 r6 hk6 hz6 => ?_
      replace r6 : Row w6 w4.heap.size 94 (({ rp0 with op := q.op, at' := ((a : Nat) : Int) } : Rp).cells nilS nilS nilS) := r6
      have k46 : Kp Emp w4 w6 := hk5.then hk6 fun k hk (q : k = _) => by omega
      have k6 := k4.trans k46
      have sz4 := hk4.size
      unfold s223_p4 s223_p4_d
      have kd6 : Kp Emp w6 (drw w6) := kp_drw
      have szd6 : (drw w6).heap.size = w6.heap.size := rfl
      generalize drw w6 = w7 at kd6 szd6 ⊢
      have k7 := k6.trans kd6
      have k47 := k46.trans kd6
      have q7 := k47.row' q4
      have p7 := k47.row' p4
      have r7 := kd6.row' r6
      obtain ⟨va7, vt7, env7, re7, _⟩ := (h.kp' k7).ex
      try simp only [e_fd, e_nck, e_pkt, e_pkf, e_gdtt, e_gdtf, e_gdft, e_gdff, e_ift, e_iff, e_not, e_ln, e_lnT, e_cp, e_cvi, e_ex20, e_ex21, e_ex30, e_ex31, e_ex32, e_add, e_sub, e_mul, e_quo, e_rem, e_and, e_or, e_xor, e_shl, e_shr, e_eql, e_neq, e_lss, e_leq, e_gtr, e_geq, e_beq, e_bne, e_peq1, e_peq2, e_pne1, e_pne2, e_zeq1, e_zeq2, e_zne1, e_zne2, e_feq1, e_fne1, e_feq2, e_fne2, e_seq, e_sne, e_ta1, e_ta2, Nat.zero_add, Nat.add_zero, Bool.not_true, Bool.not_false]
      refine ld1_r re7 rfl ?_
      try simp only [e_fd, e_nck, e_pkt, e_pkf, e_gdtt, e_gdtf, e_gdft, e_gdff, e_ift, e_iff, e_not, e_ln, e_lnT, e_cp, e_cvi, e_ex20, e_ex21, e_ex30, e_ex31, e_ex32, e_add, e_sub, e_mul, e_quo, e_rem, e_and, e_or, e_xor, e_shl, e_shr, e_eql, e_neq, e_lss, e_leq, e_gtr, e_geq, e_beq, e_bne, e_peq1, e_peq2, e_pne1, e_pne2, e_zeq1, e_zeq2, e_zne1, e_zne2, e_feq1, e_fne1, e_feq2, e_fne2, e_seq, e_sne, e_ta1, e_ta2, Nat.zero_add, Nat.add_zero, Bool.not_true, Bool.not_false]
      refine ld1_r r7 rfl ?_
      refine line_ok (h.kp' k7).li hal fun w8 v8 b8 s8 hb8 hk8 => ?_
      have k8 := k7.trans hk8
      have lm := g.li.mx _ (List.getElem_mem hal)
      have mx := cv.mx
      refine s8.ln ?_
      have ae8 := s8.ar iC_len (F := fun b => b = b8) (by omega) (fun b e => by cases e; rfl)
      generalize hline : σ.ls[a] = line at *
      have hat : ∀ x ∈ line, has σ.rs x := fun x hx => (g.li.at_ a hal x (by rw [hline]; exact hx)).1
      unfold s223_p3
      refine loop_n line.length (fun i l w' => ∃ ah : Int, l = [P e 0, P w.heap.size 0, P w1.heap.size 0, P w4.heap.size 0, v8, I (line.length : Nat), I (i : Nat)] ∧ Kp Emp w w' ∧ w8.heap.size ≤ w'.heap.size ∧ Row w' w.heap.size 52 (q.cells lv) ∧ Row w' w1.heap.size 94 (rp0.cells nilS nilS nilS) ∧ Row w' w4.heap.size 94 (({ rp0 with op := q.op, at' := ((a : Nat) : Int), ah := ah } : Rp).cells nilS nilS nilS) ∧ Ar iC 1 (fun b => b = b8) w' v8 line ∧ 0 ≤ ah ∧ ah ≤ 1073741824 * ((i : Nat) : Int) ∧ plF σ.rs q.id line 0 0 = plF σ.rs q.id (line.drop i) i ah)
        ⟨0, rfl, k8, Nat.le_refl _, hk8.row' q7, hk8.row' p7, hk8.row' r7, ae8, by omega, by omega, by rw [List.drop_zero]⟩ ?_ ?_
      · rintro i l w9 hi ⟨ah, rfl, k9, sz9, q9, p9, r9, a9, ah0, ah1, hf⟩ B hB
        rw [List.drop_eq_getElem_cons hi, plF] at hf
        have lt9 := r9.lt
        have b81 := hb8.1
        rw [s223_p3_Fe]
        unfold s223_p2
        simp only [dlt hi, e_fd, e_nck, e_pkt, e_pkf, e_gdtt, e_gdtf, e_gdft, e_gdff, e_ift, e_iff, e_not, e_ln, e_lnT, e_cp, e_cvi, e_ex20, e_ex21, e_ex30, e_ex31, e_ex32, e_add, e_sub, e_mul, e_quo, e_rem, e_and, e_or, e_xor, e_shl, e_shr, e_eql, e_neq, e_lss, e_leq, e_gtr, e_geq, e_beq, e_bne, e_peq1, e_peq2, e_pne1, e_pne2, e_zeq1, e_zeq2, e_zne1, e_zne2, e_feq1, e_fne1, e_feq2, e_fne2, e_seq, e_sne, e_ta1, e_ta2, Nat.zero_add, Nat.add_zero, Bool.not_true, Bool.not_false]
        refine a9.ix hi fun bb o _ hcc => ?_
        refine hcc.ld0 rfl ?_
        try simp only [e_fd, e_nck, e_pkt, e_pkf, e_gdtt, e_gdtf, e_gdft, e_gdff, e_ift, e_iff, e_not, e_ln, e_lnT, e_cp, e_cvi, e_ex20, e_ex21, e_ex30, e_ex31, e_ex32, e_add, e_sub, e_mul, e_quo, e_rem, e_and, e_or, e_xor, e_shl, e_shr, e_eql, e_neq, e_lss, e_leq, e_gtr, e_geq, e_beq, e_bne, e_peq1, e_peq2, e_pne1, e_pne2, e_zeq1, e_zeq2, e_zne1, e_zne2, e_feq1, e_fne1, e_feq2, e_fne2, e_seq, e_sne, e_ta1, e_ta2, Nat.zero_add, Nat.add_zero, Bool.not_true, Bool.not_false]
        refine ld1_r q9 rfl ?_
        try simp only [e_fd, e_nck, e_pkt, e_pkf, e_gdtt, e_gdtf, e_gdft, e_gdff, e_ift, e_iff, e_not, e_ln, e_lnT, e_cp, e_cvi, e_ex20, e_ex21, e_ex30, e_ex31, e_ex32, e_add, e_sub, e_mul, e_quo, e_rem, e_and, e_or, e_xor, e_shl, e_shr, e_eql, e_neq, e_lss, e_leq, e_gtr, e_geq, e_beq, e_bne, e_peq1, e_peq2, e_pne1, e_pne2, e_zeq1, e_zeq2, e_zne1, e_zne2, e_feq1, e_fne1, e_feq2, e_fne2, e_seq, e_sne, e_ta1, e_ta2, Nat.zero_add, Nat.add_zero, Bool.not_true, Bool.not_false]
        by_cases h8 : line[i] = q.id
        · rw [if_pos h8] at hf
          rw [hf] at hK
          have e8 : (line[i] == q.id) = true := by rw [h8]; simp
          simp only [e8, e_fd, e_nck, e_pkt, e_pkf, e_gdtt, e_gdtf, e_gdft, e_gdff, e_ift, e_iff, e_not, e_ln, e_lnT, e_cp, e_cvi, e_ex20, e_ex21, e_ex30, e_ex31, e_ex32, e_add, e_sub, e_mul, e_quo, e_rem, e_and, e_or, e_xor, e_shl, e_shr, e_eql, e_neq, e_lss, e_leq, e_gtr, e_geq, e_beq, e_bne, e_peq1, e_peq2, e_pne1, e_pne2, e_zeq1, e_zeq2, e_zne1, e_zne2, e_feq1, e_fne1, e_feq2, e_fne2, e_seq, e_sne, e_ta1, e_ta2, Nat.zero_add, Nat.add_zero, Bool.not_true, Bool.not_false]
          rw [inc i (by omega)]
          refine st1_r r9 (by simp [Rp.cells, rp0]) rfl fun w10 r10 hk10 hz10 => ?_
          replace r10 : Row w10 w4.heap.size 94 (({ rp0 with op := q.op, at' := ((a : Nat) : Int), pos := ((i + 1 : Nat) : Int), ah := ah } : Rp).cells nilS nilS nilS) := r10
          refine ldn_r r10 (show 0 + 34 ≤ 34 by decide) ?_
          refine rep_end (l := ({ rp0 with op := q.op, at' := ((a : Nat) : Int), pos := ((i + 1 : Nat) : Int), ah := ah } : Rp).cells nilS nilS nilS) (hk10.row p9 (show ¬ w1.heap.size = _ by omega)) rfl rfl (Rp.sc rfl rfl rfl) fun w11 hk11 hz11 => ?_
          exact hK w11 _ ((k9.then hk10 fun k hk (q : k = _) => by have := k4.size; omega).then hk11 fun k hk (q : k = _) => by omega) (Rv.plain rfl rfl rfl rfl)
        · rw [if_neg h8] at hf
          have e8 : (line[i] == q.id) = false := beq_eq_false_iff_ne.2 h8
          simp only [e8, e_fd, e_nck, e_pkt, e_pkf, e_gdtt, e_gdtf, e_gdft, e_gdff, e_ift, e_iff, e_not, e_ln, e_lnT, e_cp, e_cvi, e_ex20, e_ex21, e_ex30, e_ex31, e_ex32, e_add, e_sub, e_mul, e_quo, e_rem, e_and, e_or, e_xor, e_shl, e_shr, e_eql, e_neq, e_lss, e_leq, e_gtr, e_geq, e_beq, e_bne, e_peq1, e_peq2, e_pne1, e_pne2, e_zeq1, e_zeq2, e_zne1, e_zne2, e_feq1, e_fne1, e_feq2, e_fne2, e_seq, e_sne, e_ta1, e_ta2, Nat.zero_add, Nat.add_zero, Bool.not_true, Bool.not_false]
          have hx := hat _ (List.getElem_mem hi)
          have hx' := hx
          unfold has at hx'
          obtain ⟨va9, vt9, env9, re9, _⟩ := (h.kp' k9).ex
          refine ld1_r re9 rfl ?_
          refine get_ok (.inr ⟨by omega, by omega⟩) (h.kp' k9).tb hb1 (fun hn => absurd hx hn) (fun i' hi' hid' w10 lv10 b10 hk10 hnb10 s10 => ?_)
          have k10 := k9.trans hk10
          have sz10 := hk10.size
          try simp only [e_fd, e_nck, e_pkt, e_pkf, e_gdtt, e_gdtf, e_gdft, e_gdff, e_ift, e_iff, e_not, e_ln, e_lnT, e_cp, e_cvi, e_ex20, e_ex21, e_ex30, e_ex31, e_ex32, e_add, e_sub, e_mul, e_quo, e_rem, e_and, e_or, e_xor, e_shl, e_shr, e_eql, e_neq, e_lss, e_leq, e_gtr, e_geq, e_beq, e_bne, e_peq1, e_peq2, e_pne1, e_pne2, e_zeq1, e_zeq2, e_zne1, e_zne2, e_feq1, e_fne1, e_feq2, e_fne2, e_seq, e_sne, e_ta1, e_ta2, Nat.zero_add, Nat.add_zero, Bool.not_true, Bool.not_false]
          refine nw_r fun w11 r11 hk11 hz11 => ?_
          refine stn_r (cs := rC (σ.rs[i'], lv10)) r11 rfl (show 0 + 7 ≤ 7 by decide) (rC_sc (sl_scal s10)) fun w12 r12' hk12 hz12 => ?_
          rw [← rget_at hid' hi'] at r12'
          replace r12' : Row w12 w10.heap.size 85 (rC (rget σ.rs line[i], lv10)) := r12'
          have k1012 : Kp Emp w10 w12 := hk11.then hk12 fun k hk (q : k = _) => by omega
          have k912 := hk10.trans k1012
          have k12 := k9.trans k912
          have r912 := k912.row' r9
          have rb := hRB _ (g.ids.rget hx).1
          have rs0 := rb.s0
          have rs1 := rb.s1
          try simp only [e_fd, e_nck, e_pkt, e_pkf, e_gdtt, e_gdtf, e_gdft, e_gdff, e_ift, e_iff, e_not, e_ln, e_lnT, e_cp, e_cvi, e_ex20, e_ex21, e_ex30, e_ex31, e_ex32, e_add, e_sub, e_mul, e_quo, e_rem, e_and, e_or, e_xor, e_shl, e_shr, e_eql, e_neq, e_lss, e_leq, e_gtr, e_geq, e_beq, e_bne, e_peq1, e_peq2, e_pne1, e_pne2, e_zeq1, e_zeq2, e_zne1, e_zne2, e_feq1, e_fne1, e_feq2, e_fne2, e_seq, e_sne, e_ta1, e_ta2, Nat.zero_add, Nat.add_zero, Bool.not_true, Bool.not_false]
          refine ld1_r r912 rfl ?_
          try simp only [e_fd, e_nck, e_pkt, e_pkf, e_gdtt, e_gdtf, e_gdft, e_gdff, e_ift, e_iff, e_not, e_ln, e_lnT, e_cp, e_cvi, e_ex20, e_ex21, e_ex30, e_ex31, e_ex32, e_add, e_sub, e_mul, e_quo, e_rem, e_and, e_or, e_xor, e_shl, e_shr, e_eql, e_neq, e_lss, e_leq, e_gtr, e_geq, e_beq, e_bne, e_peq1, e_peq2, e_pne1, e_pne2, e_zeq1, e_zeq2, e_zne1, e_zne2, e_feq1, e_fne1, e_feq2, e_fne2, e_seq, e_sne, e_ta1, e_ta2, Nat.zero_add, Nat.add_zero, Bool.not_true, Bool.not_false]
          refine ld1_r r12' rfl ?_
          try simp only [e_fd, e_nck, e_pkt, e_pkf, e_gdtt, e_gdtf, e_gdft, e_gdff, e_ift, e_iff, e_not, e_ln, e_lnT, e_cp, e_cvi, e_ex20, e_ex21, e_ex30, e_ex31, e_ex32, e_add, e_sub, e_mul, e_quo, e_rem, e_and, e_or, e_xor, e_shl, e_shr, e_eql, e_neq, e_lss, e_leq, e_gtr, e_geq, e_beq, e_bne, e_peq1, e_peq2, e_pne1, e_pne2, e_zeq1, e_zeq2, e_zne1, e_zne2, e_feq1, e_fne1, e_feq2, e_fne2, e_seq, e_sne, e_ta1, e_ta2, Nat.zero_add, Nat.add_zero, Bool.not_true, Bool.not_false]
          rw [wrap64_id (by omega) (by omega)]
          refine st1_r r912 (by simp [Rp.cells, rp0]) rfl fun w13 r13 hk13 hz13 => ?_
          replace r13 : Row w13 w4.heap.size 94 (({ rp0 with op := q.op, at' := ((a : Nat) : Int), ah := ah + (rget σ.rs line[i]).sz } : Rp).cells nilS nilS nilS) := r13
          have sz12 := k912.size
          rw [inc i (by omega)]
          refine hB _ _ ⟨ah + (rget σ.rs line[i]).sz, rfl, k12.then hk13 fun k hk (q : k = _) => by have := k4.size; omega, by omega, hk13.row (k912.row' q9) (show ¬ w.heap.size = _ by omega), hk13.row (k912.row' p9) (show ¬ w1.heap.size = _ by omega), r13, (a9.kp' k912).kp hk13 fun b (e : b = b8) (q : b = _) => by omega, by omega, by omega, hf⟩
      · rintro l w9 ⟨ah, rfl, k9, sz9, q9, p9, r9, a9, ah0, ah1, hf⟩ B
        rw [List.drop_length, plF] at hf
        rw [hf] at hK
        rw [s223_p3_Fe]
        unfold s223_p2
        simp only [dnlt, e_fd, e_nck, e_pkt, e_pkf, e_gdtt, e_gdtf, e_gdft, e_gdff, e_ift, e_iff, e_not, e_ln, e_lnT, e_cp, e_cvi, e_ex20, e_ex21, e_ex30, e_ex31, e_ex32, e_add, e_sub, e_mul, e_quo, e_rem, e_and, e_or, e_xor, e_shl, e_shr, e_eql, e_neq, e_lss, e_leq, e_gtr, e_geq, e_beq, e_bne, e_peq1, e_peq2, e_pne1, e_pne2, e_zeq1, e_zeq2, e_zne1, e_zne2, e_feq1, e_fne1, e_feq2, e_fne2, e_seq, e_sne, e_ta1, e_ta2, Nat.zero_add, Nat.add_zero, Bool.not_true, Bool.not_false]
        unfold s223_p1
        exact ref_end p9 rfl k9 (by omega) fun w5 k5 rv5 => hK w5 _ k5 rv5
    · rw [if_neg h7] at hK
      simp only [h7, decide_false, Bool.not_false, e_fd, e_nck, e_pkt, e_pkf, e_gdtt, e_gdtf, e_gdft, e_gdff, e_ift, e_iff, e_not, e_ln, e_lnT, e_cp, e_cvi, e_ex20, e_ex21, e_ex30, e_ex31, e_ex32, e_add, e_sub, e_mul, e_quo, e_rem, e_and, e_or, e_xor, e_shl, e_shr, e_eql, e_neq, e_lss, e_leq, e_gtr, e_geq, e_beq, e_bne, e_peq1, e_peq2, e_pne1, e_pne2, e_zeq1, e_zeq2, e_zne1, e_zne2, e_feq1, e_fne1, e_feq2, e_fne2, e_seq, e_sne, e_ta1, e_ta2, Nat.zero_add, Nat.add_zero, Bool.not_true, Bool.not_false]
      exact ref_end p4 rfl k4 (by omega) fun w5 k5 rv5 => hK w5 _ k5 rv5
  refine ⟨?_, ?_⟩
  · refine get_ok (.inr hid) h3.tb hb1 (fun hn w4 hk4 => ?_) fun i hi he w4 lv4 b4 hk4 hb4 s4 => ?_
    · simp only [ex2_0, ex2_1, and_self]
      refine nw_r fun w5 r5 hk5 hz5 => ⟨(hk4.trans hk5).below', ?_⟩
      refine stn_r (cs := rC (zRec, nilS)) r5 rfl (show 0 + 7 ≤ 7 by decide) rfl fun w6 r6 hk6 hz6 => ?_
      exact bad hn w6 _ ((hk4.trans hk5).then hk6 fun k hk (q : k = _) => by have := hk4.size; omega)
    · simp only [ex2_0, ex2_1, and_self]
      refine nw_r fun w5 r5 hk5 hz5 => ⟨(hk4.trans hk5).below', ?_⟩
      refine stn_r (cs := rC (σ.rs[i], lv4)) r5 rfl (show 0 + 7 ≤ 7 by decide) (rC_sc (sl_scal s4)) fun w6 r6 hk6 hz6 => ?_
      have s4' := hk4.size
      rw [← rget_at he hi] at r6
      exact good ⟨by omega, by omega⟩ w6 _ lv4 ((hk4.trans hk5).then hk6 fun k hk (q : k = _) => by omega) (by omega) r6
  · refine nw_r fun w4 r4 hk4 hz4 => ⟨hk4.below', ?_⟩
    refine get_ok (.inr hid) (h3.tb.kp' hk4) hb1 (fun hn w5 hk5 => ?_) fun i hi he w5 lv4 b4 hk5 hb4 s4 => ?_
    · simp only [ex2_0, ex2_1, and_self]
      refine stn_r (cs := rC (zRec, nilS)) (hk5.row' r4) rfl (show 0 + 7 ≤ 7 by decide) rfl fun w6 r6 hk6 hz6 => ?_
      exact bad hn w6 _ ((hk4.trans hk5).then hk6 fun k hk (q : k = _) => by omega)
    · simp only [ex2_0, ex2_1, and_self]
      refine stn_r (cs := rC (σ.rs[i], lv4)) (hk5.row' r4) rfl (show 0 + 7 ≤ 7 by decide) (rC_sc (sl_scal s4)) fun w6 r6 hk6 hz6 => ?_
      rw [← rget_at he hi] at r6
      exact good ⟨by omega, by omega⟩ w6 _ lv4 ((hk4.trans hk5).then hk6 fun k hk (q : k = _) => by omega) (by omega) r6
end
end Go.Proofs.Qxb6500896aGreat
