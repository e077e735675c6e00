import Derived.Test.Qxb6500896aGreatK63
namespace Go.Proofs.Qxb6500896aGreat
open Go.Sh Go.RowKit
set_option linter.unusedVariables false
set_option linter.unusedSimpArgs false

def qQuo (C : Cfg) (q : Rq) (σ : Sg) : Rp := if tCheck C q.cl q.sz q.legs σ.rs = 0 then { rp0 with op := q.op, id := ((σ.rs.length + 1 : Nat) : Int), ex := σ.now + C.ht } else rf (tCheck C q.cl q.sz q.legs σ.rs)
/-- the records in each status -/
def cnts (rs : List Rec) : List Int := (List.range 10).map fun s => ((rs.countP fun r => r.st == ((s : Nat) : Int)) : Int)
def qCnt (q : Rq) (σ : Sg) : Rp := { rp0 with op := q.op, cnt := cnts σ.rs }
theorem cnts_len (rs : List Rec) : (cnts rs).length = 10 := by unfold cnts; simp
theorem cnts_get {rs : List Rec} {k : Nat} (h : k < 10) : (cnts rs)[k]? = some ((rs.countP fun r => r.st == ((k : Nat) : Int)) : Int) := by
  unfold cnts
  rw [List.getElem?_map, List.getElem?_range h]; rfl
theorem cnts_add {rs : List Rec} {r : Rec} {k : Nat} (hk : r.st = ((k : Nat) : Int)) (h : k < 10) : (cnts rs).set k (((rs.countP fun r => r.st == ((k : Nat) : Int)) : Int) + 1) = cnts (rs ++ [r]) := by
  apply List.ext_getElem?
  intro i
  by_cases hi : i < 10
  · rw [List.getElem?_set, cnts_len, cnts_get hi, cnts_get hi, List.countP_append, List.countP_singleton]
    by_cases q : k = i
    · subst q
      rw [if_pos rfl, if_pos h]
      simp [hk]
    · rw [if_neg q]
      have : (r.st == ((i : Nat) : Int)) = false := by rw [beq_eq_false_iff_ne, hk]; omega
      simp [this]
  · rw [List.getElem?_eq_none (by rw [List.length_set, cnts_len]; omega), List.getElem?_eq_none (by rw [cnts_len]; omega)]
section
variable {C : Cfg} {now st ex ln a0 s0 seq : Int} {n : Nat} {rs : List Rec} {ls : List (List Int)}
theorem sh_st (h : Sh C now st ex ln a0 s0 n) : 1 ≤ st ∧ st ≤ 9 := by
  unfold Sh Bk Sd at *; omega
theorem Gd.st9 (h : Gd C seq now rs ls) : ∀ r ∈ rs, 1 ≤ r.st ∧ r.st ≤ 9 := fun r hr => sh_st (h.rc r hr).sh
end
section
variable {F G M0 M M' S V : Nat → Prop} {w w' w0 w1 w4 : World} {v v' rv lv iv va vt env wv : Value} {l l0 : List Value} {n wb e t b c pb j : Nat} {C : Cfg} {K : Value → World → Prop} {m0 m m' m4 : Me} {σ σ' : Sg} {J J' : Jr} {q : Rq} {p : Rp} {x : List Int} {lob : Option Nat}
theorem cnt_get {k : Nat} (hl : p.cnt.length = 10) (hk : k < 10) : (p.cells iv rv wv)[22 + k]? = some (I (p.cnt[k]?.getD 0)) := by
  unfold Rp.cells
  rw [List.getElem?_append_right (by simp), show 22 + k - _ = k from by simp, List.getElem?_append_left (by simp; omega), List.getElem?_map, List.getElem?_eq_getElem (by omega)]
  rfl
theorem cnt_set {k : Nat} {x : Int} (hl : p.cnt.length = 10) (hk : k < 10) : (p.cells iv rv wv).set (22 + k) (I x) = ({ p with cnt := p.cnt.set k x } : Rp).cells iv rv wv := by
  unfold Rp.cells
  rw [List.set_append_right _ _ (by simp), show 22 + k - _ = k from by simp, List.set_append_left _ _ (by simp; omega)]
  simp only [List.map_set]
theorem quoteE_ok (cv : CV C) (g : SGd C σ) (h : En M w e m C σ J) (hl : Ar lC 2 F w lv q.legs) (hlo : LO2 C σ.now q.legs) (hc : 0 ≤ q.cl ∧ q.cl < 3) (hs : 1 ≤ q.sz ∧ q.sz ≤ C.mp) (hK : QK w (qQuo C q σ) K) : cl Tryz.prog 221 #[P e 0, .agg (q.cells lv).toArray] K w := by
  have hn := g.now
  have mc := cv.mc.2
  have mp := cv.mp.2
  have ht := cv.ht
  have hsc := hl.scal
  have tl := h.tb.len
  apply c221
  unfold s221_p5
  refine nw_r fun w1 r1 hk1 hz1 => ?_
  replace r1 : Row w1 w.heap.size 52 (q.cells lv) := r1
  refine nw_r fun w2 r2 hk2 hz2 => ?_
  replace r2 : Row w2 w1.heap.size 94 (rp0.cells nilS nilS nilS) := r2
  have r12 := hk2.row' r1
  have k2 := hk1.trans hk2
  unfold s221_p4 s221_p4_d
  have kd : Kp Emp w2 (drw w2) := kp_drw
  generalize drw w2 = w3 at kd ⊢
  have k3 := k2.trans kd
  have h3 := h.kp' k3
  obtain ⟨va, vt, env, r, _⟩ := h3.ex
  have q3 := kd.row' r12
  have p3 := kd.row' r2
  try simp only [e_fd, e_nck, e_pkt, e_pkf, e_gdtt, e_gdtf, e_gdft, e_gdff, e_ift, e_iff, e_not, e_ln, e_lnT, e_cp, e_cvi, e_ex20, e_ex21, e_ex30, e_ex31, e_ex32, e_add, e_sub, e_mul, e_quo, e_rem, e_and, e_or, e_xor, e_shl, e_shr, e_eql, e_neq, e_lss, e_leq, e_gtr, e_geq, e_beq, e_bne, e_peq1, e_peq2, e_pne1, e_pne2, e_zeq1, e_zeq2, e_zne1, e_zne2, e_feq1, e_fne1, e_feq2, e_fne2, e_seq, e_sne, e_ta1, e_ta2, Nat.zero_add, Nat.add_zero, Bool.not_true, Bool.not_false]
  refine ld1_r r rfl ?_
  try simp only [e_fd, e_nck, e_pkt, e_pkf, e_gdtt, e_gdtf, e_gdft, e_gdff, e_ift, e_iff, e_not, e_ln, e_lnT, e_cp, e_cvi, e_ex20, e_ex21, e_ex30, e_ex31, e_ex32, e_add, e_sub, e_mul, e_quo, e_rem, e_and, e_or, e_xor, e_shl, e_shr, e_eql, e_neq, e_lss, e_leq, e_gtr, e_geq, e_beq, e_bne, e_peq1, e_peq2, e_pne1, e_pne2, e_zeq1, e_zeq2, e_zne1, e_zne2, e_feq1, e_fne1, e_feq2, e_fne2, e_seq, e_sne, e_ta1, e_ta2, Nat.zero_add, Nat.add_zero, Bool.not_true, Bool.not_false]
  refine ld1_r r rfl ?_
  try simp only [e_fd, e_nck, e_pkt, e_pkf, e_gdtt, e_gdtf, e_gdft, e_gdff, e_ift, e_iff, e_not, e_ln, e_lnT, e_cp, e_cvi, e_ex20, e_ex21, e_ex30, e_ex31, e_ex32, e_add, e_sub, e_mul, e_quo, e_rem, e_and, e_or, e_xor, e_shl, e_shr, e_eql, e_neq, e_lss, e_leq, e_gtr, e_geq, e_beq, e_bne, e_peq1, e_peq2, e_pne1, e_pne2, e_zeq1, e_zeq2, e_zne1, e_zne2, e_feq1, e_fne1, e_feq2, e_fne2, e_seq, e_sne, e_ta1, e_ta2, Nat.zero_add, Nat.add_zero, Bool.not_true, Bool.not_false]
  refine ld1_r q3 rfl ?_
  try simp only [e_fd, e_nck, e_pkt, e_pkf, e_gdtt, e_gdtf, e_gdft, e_gdff, e_ift, e_iff, e_not, e_ln, e_lnT, e_cp, e_cvi, e_ex20, e_ex21, e_ex30, e_ex31, e_ex32, e_add, e_sub, e_mul, e_quo, e_rem, e_and, e_or, e_xor, e_shl, e_shr, e_eql, e_neq, e_lss, e_leq, e_gtr, e_geq, e_beq, e_bne, e_peq1, e_peq2, e_pne1, e_pne2, e_zeq1, e_zeq2, e_zne1, e_zne2, e_feq1, e_fne1, e_feq2, e_fne2, e_seq, e_sne, e_ta1, e_ta2, Nat.zero_add, Nat.add_zero, Bool.not_true, Bool.not_false]
  refine ld1_r q3 rfl ?_
  try simp only [e_fd, e_nck, e_pkt, e_pkf, e_gdtt, e_gdtf, e_gdft, e_gdff, e_ift, e_iff, e_not, e_ln, e_lnT, e_cp, e_cvi, e_ex20, e_ex21, e_ex30, e_ex31, e_ex32, e_add, e_sub, e_mul, e_quo, e_rem, e_and, e_or, e_xor, e_shl, e_shr, e_eql, e_neq, e_lss, e_leq, e_gtr, e_geq, e_beq, e_bne, e_peq1, e_peq2, e_pne1, e_pne2, e_zeq1, e_zeq2, e_zne1, e_zne2, e_feq1, e_fne1, e_feq2, e_fne2, e_seq, e_sne, e_ta1, e_ta2, Nat.zero_add, Nat.add_zero, Bool.not_true, Bool.not_false]
  refine ld1_r (v := lv) q3 rfl ?_
  refine check_ok cv (g.ti cv) h3.tb (hl.kp' k3) (hlo.lo cv hn) hc ⟨by omega, by omega⟩ ⟨by omega, by omega⟩ fun w4 hk4 => ?_
  have k4 := k3.trans hk4
  have q4 := hk4.row' q3
  have p4 := hk4.row' p3
  have re4 := hk4.row' r
  unfold qQuo at hK
  unfold s221_p3
  simp only [nei, e_fd, e_nck, e_pkt, e_pkf, e_gdtt, e_gdtf, e_gdft, e_gdff, e_ift, e_iff, e_not, e_ln, e_lnT, e_cp, e_cvi, e_ex20, e_ex21, e_ex30, e_ex31, e_ex32, e_add, e_sub, e_mul, e_quo, e_rem, e_and, e_or, e_xor, e_shl, e_shr, e_eql, e_neq, e_lss, e_leq, e_gtr, e_geq, e_beq, e_bne, e_peq1, e_peq2, e_pne1, e_pne2, e_zeq1, e_zeq2, e_zne1, e_zne2, e_feq1, e_fne1, e_feq2, e_fne2, e_seq, e_sne, e_ta1, e_ta2, Nat.zero_add, Nat.add_zero, Bool.not_true, Bool.not_false]
  by_cases h0 : tCheck C q.cl q.sz q.legs σ.rs = 0
  · rw [if_pos h0] at hK
    simp only [h0, decide_true, Bool.not_true, e_fd, e_nck, e_pkt, e_pkf, e_gdtt, e_gdtf, e_gdft, e_gdff, e_ift, e_iff, e_not, e_ln, e_lnT, e_cp, e_cvi, e_ex20, e_ex21, e_ex30, e_ex31, e_ex32, e_add, e_sub, e_mul, e_quo, e_rem, e_and, e_or, e_xor, e_shl, e_shr, e_eql, e_neq, e_lss, e_leq, e_gtr, e_geq, e_beq, e_bne, e_peq1, e_peq2, e_pne1, e_pne2, e_zeq1, e_zeq2, e_zne1, e_zne2, e_feq1, e_fne1, e_feq2, e_fne2, e_seq, e_sne, e_ta1, e_ta2, Nat.zero_add, Nat.add_zero, Bool.not_true, Bool.not_false]
    unfold s221_p2 s221_p2_d
    have kd4 : Kp Emp w4 (drw w4) := kp_drw
    generalize drw w4 = w5 at kd4 ⊢
    have k5 := k4.trans kd4
    have re5 := kd4.row' re4
    try simp only [e_fd, e_nck, e_pkt, e_pkf, e_gdtt, e_gdtf, e_gdft, e_gdff, e_ift, e_iff, e_not, e_ln, e_lnT, e_cp, e_cvi, e_ex20, e_ex21, e_ex30, e_ex31, e_ex32, e_add, e_sub, e_mul, e_quo, e_rem, e_and, e_or, e_xor, e_shl, e_shr, e_eql, e_neq, e_lss, e_leq, e_gtr, e_geq, e_beq, e_bne, e_peq1, e_peq2, e_pne1, e_pne2, e_zeq1, e_zeq2, e_zne1, e_zne2, e_feq1, e_fne1, e_feq2, e_fne2, e_seq, e_sne, e_ta1, e_ta2, Nat.zero_add, Nat.add_zero, Bool.not_true, Bool.not_false]
    refine ld1_r (kd4.row' q4) rfl ?_
    try simp only [e_fd, e_nck, e_pkt, e_pkf, e_gdtt, e_gdtf, e_gdft, e_gdff, e_ift, e_iff, e_not, e_ln, e_lnT, e_cp, e_cvi, e_ex20, e_ex21, e_ex30, e_ex31, e_ex32, e_add, e_sub, e_mul, e_quo, e_rem, e_and, e_or, e_xor, e_shl, e_shr, e_eql, e_neq, e_lss, e_leq, e_gtr, e_geq, e_beq, e_bne, e_peq1, e_peq2, e_pne1, e_pne2, e_zeq1, e_zeq2, e_zne1, e_zne2, e_feq1, e_fne1, e_feq2, e_fne2, e_seq, e_sne, e_ta1, e_ta2, Nat.zero_add, Nat.add_zero, Bool.not_true, Bool.not_false]
    refine ld1_r re5 rfl ?_
    try simp only [e_fd, e_nck, e_pkt, e_pkf, e_gdtt, e_gdtf, e_gdft, e_gdff, e_ift, e_iff, e_not, e_ln, e_lnT, e_cp, e_cvi, e_ex20, e_ex21, e_ex30, e_ex31, e_ex32, e_add, e_sub, e_mul, e_quo, e_rem, e_and, e_or, e_xor, e_shl, e_shr, e_eql, e_neq, e_lss, e_leq, e_gtr, e_geq, e_beq, e_bne, e_peq1, e_peq2, e_pne1, e_pne2, e_zeq1, e_zeq2, e_zne1, e_zne2, e_feq1, e_fne1, e_feq2, e_fne2, e_seq, e_sne, e_ta1, e_ta2, Nat.zero_add, Nat.add_zero, Bool.not_true, Bool.not_false]
    refine ld1_r re5 rfl ?_
    try simp only [e_fd, e_nck, e_pkt, e_pkf, e_gdtt, e_gdtf, e_gdft, e_gdff, e_ift, e_iff, e_not, e_ln, e_lnT, e_cp, e_cvi, e_ex20, e_ex21, e_ex30, e_ex31, e_ex32, e_add, e_sub, e_mul, e_quo, e_rem, e_and, e_or, e_xor, e_shl, e_shr, e_eql, e_neq, e_lss, e_leq, e_gtr, e_geq, e_beq, e_bne, e_peq1, e_peq2, e_pne1, e_pne2, e_zeq1, e_zeq2, e_zne1, e_zne2, e_feq1, e_fne1, e_feq2, e_fne2, e_seq, e_sne, e_ta1, e_ta2, Nat.zero_add, Nat.add_zero, Bool.not_true, Bool.not_false]
    refine ld1_r re5 rfl ?_
    try simp only [e_fd, e_nck, e_pkt, e_pkf, e_gdtt, e_gdtf, e_gdft, e_gdff, e_ift, e_iff, e_not, e_ln, e_lnT, e_cp, e_cvi, e_ex20, e_ex21, e_ex30, e_ex31, e_ex32, e_add, e_sub, e_mul, e_quo, e_rem, e_and, e_or, e_xor, e_shl, e_shr, e_eql, e_neq, e_lss, e_leq, e_gtr, e_geq, e_beq, e_bne, e_peq1, e_peq2, e_pne1, e_pne2, e_zeq1, e_zeq2, e_zne1, e_zne2, e_feq1, e_fne1, e_feq2, e_fne2, e_seq, e_sne, e_ta1, e_ta2, Nat.zero_add, Nat.add_zero, Bool.not_true, Bool.not_false]
    rw [wrap64_id (by omega) (by omega)]
    refine len_ok (h.kp' k5).tb ⟨(Kp.refl _ _).below', ?_⟩
    try simp only [e_fd, e_nck, e_pkt, e_pkf, e_gdtt, e_gdtf, e_gdft, e_gdff, e_ift, e_iff, e_not, e_ln, e_lnT, e_cp, e_cvi, e_ex20, e_ex21, e_ex30, e_ex31, e_ex32, e_add, e_sub, e_mul, e_quo, e_rem, e_and, e_or, e_xor, e_shl, e_shr, e_eql, e_neq, e_lss, e_leq, e_gtr, e_geq, e_beq, e_bne, e_peq1, e_peq2, e_pne1, e_pne2, e_zeq1, e_zeq2, e_zne1, e_zne2, e_feq1, e_fne1, e_feq2, e_fne2, e_seq, e_sne, e_ta1, e_ta2, Nat.zero_add, Nat.add_zero, Bool.not_true, Bool.not_false]
    rw [inc σ.rs.length (by omega)]
    refine ⟨(Kp.refl _ _).below', ?_⟩
    refine bdq_r (l := ({ rp0 with op := q.op, id := ((σ.rs.length + 1 : Nat) : Int), ex := σ.now + C.ht } : Rp).cells nilS nilS nilS) rfl ?_
    unfold s221_p1
    refine rep_end (kd4.row' p4) rfl rfl (Rp.sc rfl rfl rfl) fun w6 hk6 hz6 => ?_
    exact hK w6 _ (k5.then hk6 fun k hk (q : k = _) => by omega) (Rv.plain rfl rfl rfl rfl)
  · rw [if_neg h0] at hK
    simp only [h0, decide_false, Bool.not_false, e_fd, e_nck, e_pkt, e_pkf, e_gdtt, e_gdtf, e_gdft, e_gdff, e_ift, e_iff, e_not, e_ln, e_lnT, e_cp, e_cvi, e_ex20, e_ex21, e_ex30, e_ex31, e_ex32, e_add, e_sub, e_mul, e_quo, e_rem, e_and, e_or, e_xor, e_shl, e_shr, e_eql, e_neq, e_lss, e_leq, e_gtr, e_geq, e_beq, e_bne, e_peq1, e_peq2, e_pne1, e_pne2, e_zeq1, e_zeq2, e_zne1, e_zne2, e_feq1, e_fne1, e_feq2, e_fne2, e_seq, e_sne, e_ta1, e_ta2, Nat.zero_add, Nat.add_zero, Bool.not_true, Bool.not_false]
    exact ref_end p4 rfl k4 (by omega) fun w5 k5 rv5 => hK w5 _ k5 rv5
set_option maxHeartbeats 1000000 in
theorem countE_ok (g : SGd C σ) (h : En M w e m C σ J) (hsc : scal lv = true) (hK : QK w (qCnt q σ) K) : cl Tryz.prog 222 #[P e 0, .agg (q.cells lv).toArray] K w := by
  have hb1 : ∀ r ∈ σ.rs, r.legs.length ≤ 1000000 := fun r hr => by have := (g.rn r hr).ll; omega
  have tl := h.tb.len
  apply c222
  unfold s222_p4
  refine nw_r fun w1 r1 hk1 hz1 => ?_
  replace r1 : Row w1 w.heap.size 52 (q.cells lv) := r1
  refine nw_r fun w2 r2 hk2 hz2 => ?_
  replace r2 : Row w2 w1.heap.size 94 (rp0.cells nilS nilS nilS) := r2
  have r12 := hk2.row' r1
  have k2 := hk1.trans hk2
  try simp only [e_fd, e_nck, e_pkt, e_pkf, e_gdtt, e_gdtf, e_gdft, e_gdff, e_ift, e_iff, e_not, e_ln, e_lnT, e_cp, e_cvi, e_ex20, e_ex21, e_ex30, e_ex31, e_ex32, e_add, e_sub, e_mul, e_quo, e_rem, e_and, e_or, e_xor, e_shl, e_shr, e_eql, e_neq, e_lss, e_leq, e_gtr, e_geq, e_beq, e_bne, e_peq1, e_peq2, e_pne1, e_pne2, e_zeq1, e_zeq2, e_zne1, e_zne2, e_feq1, e_fne1, e_feq2, e_fne2, e_seq, e_sne, e_ta1, e_ta2, Nat.zero_add, Nat.add_zero, Bool.not_true, Bool.not_false]
  refine ld1_r r12 rfl ?_
  refine bdq_r (l := ({ rp0 with op := q.op } : Rp).cells nilS nilS nilS) rfl ?_
  refine nw_r fun w3 r3 hk3 hz3 => ?_
  refine stn_r (cs := ({ rp0 with op := q.op } : Rp).cells nilS nilS nilS) r3 rfl (show 0 + 34 ≤ 34 by decide) (Rp.sc rfl rfl rfl) fun w4 r4 hk4 hz4 => ?_
  replace r4 : Row w4 w2.heap.size 94 (({ rp0 with op := q.op, cnt := cnts (σ.rs.take 0) } : Rp).cells nilS nilS nilS) := r4
  have k24 : Kp Emp w2 w4 := hk3.then hk4 fun k hk (q : k = _) => by omega
  have k4 := k2.trans k24
  have p4 := k24.row' r2
  unfold s222_p3
  refine loop_n σ.rs.length (fun i l w' => l = [P e 0, P w1.heap.size 0, P w2.heap.size 0, I ((i + 1 : Nat) : Int)] ∧ Kp Emp w w' ∧ w4.heap.size ≤ w'.heap.size ∧ Row w' w1.heap.size 94 (rp0.cells nilS nilS nilS) ∧ Row w' w2.heap.size 94 (({ rp0 with op := q.op, cnt := cnts (σ.rs.take i) } : Rp).cells nilS nilS nilS)) ⟨rfl, k4, Nat.le_refl _, p4, r4⟩ ?_ ?_
  · rintro i l w5 hi ⟨rfl, k5, sz5, p5, r5⟩ B hB
    have h5 := h.kp' k5
    obtain ⟨va, vt, env, re, _⟩ := h5.ex
    rw [s222_p3_Fe]
    unfold s222_p2
    try simp only [e_fd, e_nck, e_pkt, e_pkf, e_gdtt, e_gdtf, e_gdft, e_gdff, e_ift, e_iff, e_not, e_ln, e_lnT, e_cp, e_cvi, e_ex20, e_ex21, e_ex30, e_ex31, e_ex32, e_add, e_sub, e_mul, e_quo, e_rem, e_and, e_or, e_xor, e_shl, e_shr, e_eql, e_neq, e_lss, e_leq, e_gtr, e_geq, e_beq, e_bne, e_peq1, e_peq2, e_pne1, e_pne2, e_zeq1, e_zeq2, e_zne1, e_zne2, e_feq1, e_fne1, e_feq2, e_fne2, e_seq, e_sne, e_ta1, e_ta2, Nat.zero_add, Nat.add_zero, Bool.not_true, Bool.not_false]
    refine ld1_r re rfl ?_
    refine len_ok h5.tb ?_
    have e1 : ((i + 1 : Nat) : Int) ≤ ((σ.rs.length : Nat) : Int) := by omega
    simp only [e1, decide_true, e_fd, e_nck, e_pkt, e_pkf, e_gdtt, e_gdtf, e_gdft, e_gdff, e_ift, e_iff, e_not, e_ln, e_lnT, e_cp, e_cvi, e_ex20, e_ex21, e_ex30, e_ex31, e_ex32, e_add, e_sub, e_mul, e_quo, e_rem, e_and, e_or, e_xor, e_shl, e_shr, e_eql, e_neq, e_lss, e_leq, e_gtr, e_geq, e_beq, e_bne, e_peq1, e_peq2, e_pne1, e_pne2, e_zeq1, e_zeq2, e_zne1, e_zne2, e_feq1, e_fne1, e_feq2, e_fne2, e_seq, e_sne, e_ta1, e_ta2, Nat.zero_add, Nat.add_zero, Bool.not_true, Bool.not_false]
    refine ld1_r re rfl ?_
    refine get_ok (.inr ⟨by omega, by omega⟩) h5.tb hb1 (fun hn => absurd ⟨by omega, by omega⟩ hn) (fun i' hi' hid' w7 lv7 b7 hk7 hnb7 s7 => ?_)
    obtain rfl : i' = i := by omega
    have k7 := k5.trans hk7
    have sz7 := hk7.size
    try simp only [e_fd, e_nck, e_pkt, e_pkf, e_gdtt, e_gdtf, e_gdft, e_gdff, e_ift, e_iff, e_not, e_ln, e_lnT, e_cp, e_cvi, e_ex20, e_ex21, e_ex30, e_ex31, e_ex32, e_add, e_sub, e_mul, e_quo, e_rem, e_and, e_or, e_xor, e_shl, e_shr, e_eql, e_neq, e_lss, e_leq, e_gtr, e_geq, e_beq, e_bne, e_peq1, e_peq2, e_pne1, e_pne2, e_zeq1, e_zeq2, e_zne1, e_zne2, e_feq1, e_fne1, e_feq2, e_fne2, e_seq, e_sne, e_ta1, e_ta2, Nat.zero_add, Nat.add_zero, Bool.not_true, Bool.not_false]
    refine nw_r fun w8 r8 hk8 hz8 => ?_
    refine stn_r (cs := rC (σ.rs[i'], lv7)) r8 rfl (show 0 + 7 ≤ 7 by decide) (rC_sc (sl_scal s7)) fun w9 r9 hk9 hz9 => ?_
    replace r9 : Row w9 w7.heap.size 85 (rC (σ.rs[i'], lv7)) := r9
    have k79 : Kp Emp w7 w9 := hk8.then hk9 fun k hk (q : k = _) => by omega
    have k9 := k7.trans k79
    have r59 := (hk7.trans k79).row' r5
    have p59 := (hk7.trans k79).row' p5
    have st := g.st9 _ (List.getElem_mem hi)
    obtain ⟨k, hk⟩ : ∃ k : Nat, σ.rs[i'].st = k := ⟨σ.rs[i'].st.toNat, by omega⟩
    have hk10 : k < 10 := by omega
    try simp only [e_fd, e_nck, e_pkt, e_pkf, e_gdtt, e_gdtf, e_gdft, e_gdff, e_ift, e_iff, e_not, e_ln, e_lnT, e_cp, e_cvi, e_ex20, e_ex21, e_ex30, e_ex31, e_ex32, e_add, e_sub, e_mul, e_quo, e_rem, e_and, e_or, e_xor, e_shl, e_shr, e_eql, e_neq, e_lss, e_leq, e_gtr, e_geq, e_beq, e_bne, e_peq1, e_peq2, e_pne1, e_pne2, e_zeq1, e_zeq2, e_zne1, e_zne2, e_feq1, e_fne1, e_feq2, e_fne2, e_seq, e_sne, e_ta1, e_ta2, Nat.zero_add, Nat.add_zero, Bool.not_true, Bool.not_false]
    refine ld1_r (v := I ((k : Nat) : Int)) r9 (by rw [← hk]; rfl) ?_
    try simp only [e_fd, e_nck, e_pkt, e_pkf, e_gdtt, e_gdtf, e_gdft, e_gdff, e_ift, e_iff, e_not, e_ln, e_lnT, e_cp, e_cvi, e_ex20, e_ex21, e_ex30, e_ex31, e_ex32, e_add, e_sub, e_mul, e_quo, e_rem, e_and, e_or, e_xor, e_shl, e_shr, e_eql, e_neq, e_lss, e_leq, e_gtr, e_geq, e_beq, e_bne, e_peq1, e_peq2, e_pne1, e_pne2, e_zeq1, e_zeq2, e_zne1, e_zne2, e_feq1, e_fne1, e_feq2, e_fne2, e_seq, e_sne, e_ta1, e_ta2, Nat.zero_add, Nat.add_zero, Bool.not_true, Bool.not_false]
    refine ⟨⟨by omega, by omega⟩, ?_⟩
    have ek : ((k : Nat) : Int).toNat * 1 = k := by omega
    rw [ek, add_mk]
    refine ld1_r r59 (cnt_get (cnts_len _) hk10) ?_
    try simp only [e_fd, e_nck, e_pkt, e_pkf, e_gdtt, e_gdtf, e_gdft, e_gdff, e_ift, e_iff, e_not, e_ln, e_lnT, e_cp, e_cvi, e_ex20, e_ex21, e_ex30, e_ex31, e_ex32, e_add, e_sub, e_mul, e_quo, e_rem, e_and, e_or, e_xor, e_shl, e_shr, e_eql, e_neq, e_lss, e_leq, e_gtr, e_geq, e_beq, e_bne, e_peq1, e_peq2, e_pne1, e_pne2, e_zeq1, e_zeq2, e_zne1, e_zne2, e_feq1, e_fne1, e_feq2, e_fne2, e_seq, e_sne, e_ta1, e_ta2, Nat.zero_add, Nat.add_zero, Bool.not_true, Bool.not_false]
    refine ⟨⟨by omega, by omega⟩, ?_⟩
    rw [ek, add_mk]
    refine st1_r r59 (by rw [Rp.len (cnts_len _)]; omega) rfl fun w10 r10 hk10' hz10 => ?_
    rw [cnt_set (cnts_len _) hk10] at r10
    have hcb : (σ.rs.take i').countP (fun r => r.st == ((k : Nat) : Int)) ≤ 16777216 := Nat.le_trans List.countP_le_length (by rw [List.length_take]; omega)
    have hset : (cnts (σ.rs.take i')).set k (IntKind.i64.wrap ((cnts (σ.rs.take i'))[k]?.getD 0 + 1)) = cnts (σ.rs.take (i' + 1)) := by
      rw [cnts_get hk10]
      show (cnts (σ.rs.take i')).set k (IntKind.i64.wrap (((σ.rs.take i').countP (fun r => r.st == ((k : Nat) : Int)) : Int) + 1)) = _
      rw [wrap64_id (by omega) (by omega), cnts_add hk hk10, List.take_succ_eq_append_getElem hi]
    rw [inc (i' + 1) (by omega)]
    refine hB _ _ ⟨rfl, k9.then hk10' fun k hk (q : k = _) => by omega, by omega, hk10'.row p59 (show ¬ w1.heap.size = _ by omega), ?_⟩
    rw [← hset]; exact r10
  · rintro l w5 ⟨rfl, k5, sz5, p5, r5⟩ B
    have h5 := h.kp' k5
    obtain ⟨va, vt, env, re, _⟩ := h5.ex
    rw [s222_p3_Fe]
    unfold s222_p2
    try simp only [e_fd, e_nck, e_pkt, e_pkf, e_gdtt, e_gdtf, e_gdft, e_gdff, e_ift, e_iff, e_not, e_ln, e_lnT, e_cp, e_cvi, e_ex20, e_ex21, e_ex30, e_ex31, e_ex32, e_add, e_sub, e_mul, e_quo, e_rem, e_and, e_or, e_xor, e_shl, e_shr, e_eql, e_neq, e_lss, e_leq, e_gtr, e_geq, e_beq, e_bne, e_peq1, e_peq2, e_pne1, e_pne2, e_zeq1, e_zeq2, e_zne1, e_zne2, e_feq1, e_fne1, e_feq2, e_fne2, e_seq, e_sne, e_ta1, e_ta2, Nat.zero_add, Nat.add_zero, Bool.not_true, Bool.not_false]
    refine ld1_r re rfl ?_
    refine len_ok h5.tb ?_
    have e1 : ¬ ((σ.rs.length + 1 : Nat) : Int) ≤ ((σ.rs.length : Nat) : Int) := by omega
    simp only [e1, decide_false, e_fd, e_nck, e_pkt, e_pkf, e_gdtt, e_gdtf, e_gdft, e_gdff, e_ift, e_iff, e_not, e_ln, e_lnT, e_cp, e_cvi, e_ex20, e_ex21, e_ex30, e_ex31, e_ex32, e_add, e_sub, e_mul, e_quo, e_rem, e_and, e_or, e_xor, e_shl, e_shr, e_eql, e_neq, e_lss, e_leq, e_gtr, e_geq, e_beq, e_bne, e_peq1, e_peq2, e_pne1, e_pne2, e_zeq1, e_zeq2, e_zne1, e_zne2, e_feq1, e_fne1, e_feq2, e_fne2, e_seq, e_sne, e_ta1, e_ta2, Nat.zero_add, Nat.add_zero, Bool.not_true, Bool.not_false]
    unfold s222_p1
    rw [List.take_length] at r5
    have hlen : (({ rp0 with op := q.op, cnt := cnts σ.rs } : Rp).cells nilS nilS nilS).length = 34 := Rp.len (cnts_len _)
    refine ldn_r r5 (by omega) ?_
    rw [List.drop_zero, List.take_of_length_le (by omega)]
    refine rep_end p5 rfl hlen (Rp.sc rfl rfl rfl) fun w6 hk6 hz6 => ?_
    exact hK w6 _ (k5.then hk6 fun k hk (q : k = _) => by omega) (Rv.plain rfl rfl rfl (cnts_len _))
end
end Go.Proofs.Qxb6500896aGreat
