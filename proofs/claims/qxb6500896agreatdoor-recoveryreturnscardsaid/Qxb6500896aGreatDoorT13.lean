import Derived.Test.Qxb6500896aGreatDoorT12
import Derived.Test.Qxb6500896aGreatDoorK73
namespace Go.Proofs.Qxb6500896aGreatDoor
open Go.Sh Go.RowKit
set_option linter.unusedVariables false
set_option linter.unusedSimpArgs false

section
variable {M : Nat → Prop} {W w w' w0 : World} {K : Value → World → Prop} {v lv : Value} {F : Nat → Prop} {j : Nat} {lob : Option Nat} {J : Jr} {xs : List Op}
theorem fl_ai {i : Nat} {x : Value} {bs : List Int} (hM : ∀ b, M b → W.heap.size ≤ b) (hk : Kp Emp W w) (ha : Ar bC 1 (fun b => b < W.heap.size) W x bs) : Ai bC 1 M w x bs :=
  (ha.kp' hk).mono fun b hb => ⟨fun q => by have := hM b q; omega, by have := hk.size; omega⟩
theorem fl_snap {p : Op × Value} {tb : Nat} {B : List Value → World → Prop} {t0 t13 t14 t15 : Value} (z : Fl W w j J 0) (r : Row w tb 37 (opC p)) (ha : Ar bC 1 (fun b => b < W.heap.size) W p.2 p.1.bs) (hb : By p.1.bs) (hl : p.1.bs.length ≤ 65536)
    (hK : ∀ w' J', Fl W w' j J' 1 → s6_p2 K B t0 (P j 0) t13 t14 t15 w') : s6_p5 K B t0 (P j 0) (P tb 0) t13 t14 t15 w := by
  unfold s6_p5 s6_p5_d s6_p4
  have kd : Kp Emp w (drw w) := kp_drw
  generalize drw w = w1 at kd ⊢
  have z1 := z.emp kd
  have r1 := kd.row' r
  obtain ⟨M, lob, h, hM⟩ := z1.ex
  obtain ⟨sv, lv, rj, hs, hlg⟩ := h.ex
  have hn := z.n
  have ht := z.tot
  have hMj := hM j h.mj
  have s2 : ∀ w2, Row w2 j 94 (({ J with has := true } : Jr).cells sv lv) → Ai bC 1 M w2 sv J.snap → Lg M w2 lob lv J.log → (∀ b, M b → b < w2.heap.size) → Kp (fun b => b = j) w1 w2 → st1 (P j 4) p.2 (fun w => s6_p2 K B t0 (P j 0) t13 t14 t15 w) w2 := by
    intro w2 rj2 hs2 hl2 hM2 hk2
    refine jst (J := { J with has := true }) rj2 hs2 hl2 hM2 h.mj (by decide) ha.scal fun w3 r3 hs3 hl3 hM3 hk3 hz3 => ?_
    have k3 : Kp Emp W w3 := (z1.k.then hk2 fun b hb (q : b = j) => by omega).then hk3 fun b hb (q : b = j) => by omega
    refine hK w3 { J with has := true, snap := p.1.bs } ⟨⟨M, lob, ⟨⟨p.2, lv, r3, fl_ai (i := 0) hM k3 ha, hl3⟩, h.mj, ⟨h.ok.safe, h.ok.l0, h.ok.l1, h.ok.tot, h.ok.cp, h.ok.len⟩, hM3⟩, hM⟩, k3, z.off, z.left, z.safe, ⟨hb, z.by_.l, by show p.1.bs.length ≤ _; omega⟩, z.len, ?_, by show tot J.log ≤ _; omega⟩
    show (if true = true then 1 else 0) + J.log.length = 1
    rw [if_pos rfl]
    omega
  try simp only [e_fd, e_nck, e_pkt, e_pkf, e_gdtt, e_gdtf, e_gdft, e_gdff, e_ift, e_iff, e_not, e_ln, e_lnT, e_cp, e_cvi, e_ex20, e_ex21, e_ex30, e_ex31, e_ex32, e_add, e_sub, e_mul, e_quo, e_rem, e_and, e_or, e_xor, e_shl, e_shr, e_eql, e_neq, e_lss, e_leq, e_gtr, e_geq, e_beq, e_bne, e_peq1, e_peq2, e_pne1, e_pne2, e_zeq1, e_zeq2, e_zne1, e_zne2, e_feq1, e_fne1, e_feq2, e_fne2, e_seq, e_sne, e_ta1, e_ta2, Nat.zero_add, Nat.add_zero, Bool.not_true, Bool.not_false]
  have ne : ¬ tb = j := fun e => row_ne r1 rj (by decide) e
  refine ⟨?_, ?_⟩
  · refine ld1_r (v := p.2) r1 rfl ?_
    refine jst rj hs hlg h.lt h.mj (by decide) rfl fun w2 rj2 hs2 hl2 hM2 hk2 hz2 => ?_
    exact s2 w2 rj2 hs2 hl2 hM2 hk2
  · refine jst rj hs hlg h.lt h.mj (by decide) rfl fun w2 rj2 hs2 hl2 hM2 hk2 hz2 => ?_
    refine ld1_r (v := p.2) (hk2.row r1 ne) rfl ?_
    exact s2 w2 rj2 hs2 hl2 hM2 hk2
theorem fl_log {i : Nat} {p : Op × Value} {tb : Nat} {B : List Value → World → Prop} {t0 t13 t14 t15 : Value} (z : Fl W w j J i) (hi : i ≤ 65536) (r : Row w tb 37 (opC p)) (ha : Ar bC 1 (fun b => b < W.heap.size) W p.2 p.1.bs) (hb : By p.1.bs) (hl : p.1.bs.length ≤ 65536)
    (hK : ∀ w' J', Fl W w' j J' (i + 1) → s6_p2 K B t0 (P j 0) t13 t14 t15 w') : s6_p3 K B t0 (P j 0) (P tb 0) t13 t14 t15 w := by
  unfold s6_p3 s6_p3_d
  have kd : Kp Emp w (drw w) := kp_drw
  generalize drw w = w1 at kd ⊢
  have z1 := z.emp kd
  have r1 := kd.row' r
  obtain ⟨M, lob, h, hM⟩ := z1.ex
  obtain ⟨sv, lv, rj, hs, hlg⟩ := h.ex
  have hn := z.n
  have ht := z.tot
  have hMj := hM j h.mj
  try simp only [e_fd, e_nck, e_pkt, e_pkf, e_gdtt, e_gdtf, e_gdft, e_gdff, e_ift, e_iff, e_not, e_ln, e_lnT, e_cp, e_cvi, e_ex20, e_ex21, e_ex30, e_ex31, e_ex32, e_add, e_sub, e_mul, e_quo, e_rem, e_and, e_or, e_xor, e_shl, e_shr, e_eql, e_neq, e_lss, e_leq, e_gtr, e_geq, e_beq, e_bne, e_peq1, e_peq2, e_pne1, e_pne2, e_zeq1, e_zeq2, e_zne1, e_zne2, e_feq1, e_fne1, e_feq2, e_fne2, e_seq, e_sne, e_ta1, e_ta2, Nat.zero_add, Nat.add_zero, Bool.not_true, Bool.not_false]
  refine ld1_r (v := lv) rj rfl ?_
  refine ld1_r (v := p.2) r1 rfl ?_
  refine bsq_r (l := [p.2]) (fill_one ha.scal) fun w2 r2 hk2 hz2 => ⟨hk2.below', ?_⟩
  have hM2 : ∀ b, M b → b < w2.heap.size := fun b q => by have := h.lt b q; have := hk2.size; omega
  have hl2 : Lg M w2 lob lv J.log := hlg.ext (Ext.same h.lt hk2) hk2 (fun _ q => q.elim) (fun _ _ q => q)
  have hs2 := hs.kp' hk2
  have k2 := z1.k.trans hk2
  refine Lg.appA hl2 hM2 h.ok.len (fl_ai (i := 0) hM k2 ha) r2 fun w4 lv4 lob4 hx4 hk4 ho4 hl4 => ?_
  have r4 : Row w4 j 94 (J.cells sv lv) := hk4.row (hk2.row' rj) (fun q => by
    obtain ⟨evs, s1, _⟩ := hl2
    obtain ⟨l, hr⟩ := s1.row q
    exact row_ne hr (hk2.row' rj) (by decide) rfl)
  have hlM : ∀ b, lob = some b → M b := fun b e => by obtain ⟨evs, s1, s2, _⟩ := hl2; exact s2 b e
  have hs4 : Ai bC 1 (fun b => M b ∨ lob4 = some b) w4 sv J.snap := hs2.ext hx4 hk4 (fun b e _ => hlM b e)
  refine st1_r r4 (show 5 < 10 by decide) (by obtain ⟨evs, s1, _⟩ := hl4; exact sl_scal s1) fun w5 r5 hk5 hz5 => ?_
  replace r5 : Row w5 j 94 (({ J with log := J.log ++ [p.1.bs] } : Jr).cells sv lv4) := r5
  have hM5 : ∀ b, (M b ∨ lob4 = some b) → b < w5.heap.size := fun b q => by have := hx4.lt b q; omega
  have hS5 : ∀ b, b = j → b < w4.heap.size → (M b ∨ lob4 = some b) := fun b e _ => .inl (e ▸ h.mj)
  have hx5 : Ext (fun b => M b ∨ lob4 = some b) (fun b => M b ∨ lob4 = some b) w4 w5 := Ext.same hx4.lt hk5
  have htot : tot (J.log ++ [p.1.bs]) ≤ (i + 1) * 65542 := by rw [tot_app]; omega
  have hlen : (J.log ++ [p.1.bs]).length ≤ i + 1 := by
    rw [List.length_append, List.length_singleton]
    omega
  have hj5 : Jn (fun b => M b ∨ lob4 = some b) w5 j lob4 { J with log := J.log ++ [p.1.bs] } := ⟨⟨sv, lv4, r5, hs4.ext hx5 hk5 hS5, hl4.ext hx5 hk5 hS5 (fun b e (q : b = j) => by
      obtain ⟨evs, s1, _⟩ := hl4
      obtain ⟨l, hr⟩ := s1.row e
      exact row_ne hr r4 (by decide) q)⟩, .inl h.mj, ⟨by show J.safe ≤ _; rw [z.safe]; exact Nat.zero_le _, h.ok.l0, h.ok.l1, by show tot (J.log ++ [p.1.bs]) ≤ _; omega, h.ok.cp, by show (J.log ++ [p.1.bs]).length ≤ _; omega⟩, hM5⟩
  have k4 : Kp Emp W w4 := k2.then hk4 fun b hb q => by have := hM b (hlM b q); omega
  have k5 : Kp Emp W w5 := k4.then hk5 fun b hb (q : b = j) => by omega
  have kz := k2.size
  refine hK w5 _ ⟨⟨_, lob4, hj5, fun b q => ?_⟩, k5, z.off, z.left, z.safe, ⟨z.by_.s, fun x hx => ?_, z.by_.n⟩, fun x hx => ?_, ?_, htot⟩
  · rcases q with q | q
    · exact hM b q
    · rcases ho4 with q2 | ⟨c, q2, hc⟩
      · exact hM b (hlM b (q2 ▸ q))
      · rw [q2] at q; cases q; omega
  · rcases List.mem_append.1 hx with q | q
    · exact z.by_.l x q
    · rw [List.mem_singleton.1 q]; exact hb
  · rcases List.mem_append.1 hx with q | q
    · exact z.len x q
    · rw [List.mem_singleton.1 q]; exact hl
  · show (if J.has = true then 1 else 0) + (J.log ++ [p.1.bs]).length = i + 1
    rw [List.length_append, List.length_singleton]
    omega
/-- the journal is filled: what is asked of it -/
theorem fl_end {n : Nat} (hs : Scr W v xs) (z : Fl W w j J xs.length) (hxl : xs.length ≤ 65536) : s6_p1 (fun e W' => e = .bool true ∧ Below W.heap.size W W') v (P j 0) w := by
  obtain ⟨M, lob, h, hM⟩ := z.ex
  obtain ⟨sv, lv, rj, hsv, hlg⟩ := h.ex
  have hMj := hM j h.mj
  have hn := z.n
  unfold s6_p1
  try simp only [e_fd, e_nck, e_pkt, e_pkf, e_gdtt, e_gdtf, e_gdft, e_gdff, e_ift, e_iff, e_not, e_ln, e_lnT, e_cp, e_cvi, e_ex20, e_ex21, e_ex30, e_ex31, e_ex32, e_add, e_sub, e_mul, e_quo, e_rem, e_and, e_or, e_xor, e_shl, e_shr, e_eql, e_neq, e_lss, e_leq, e_gtr, e_geq, e_beq, e_bne, e_peq1, e_peq2, e_pne1, e_pne2, e_zeq1, e_zeq2, e_zne1, e_zne2, e_feq1, e_fne1, e_feq2, e_fne2, e_seq, e_sne, e_ta1, e_ta2, Nat.zero_add, Nat.add_zero, Bool.not_true, Bool.not_false]
  refine ld1_r (v := lv) rj rfl ?_
  refine hlg.ln ?_
  refine jst rj hsv hlg h.lt h.mj (by decide) rfl fun w1 rj1 hs1 hl1 hM1 hk1 hz1 => ?_
  have h1 : Jn M w1 j lob { J with safe := J.log.length } := ⟨⟨sv, lv, rj1, hs1, hl1⟩, h.mj, ⟨Nat.le_refl _, h.ok.l0, h.ok.l1, h.ok.tot, h.ok.cp, h.ok.len⟩, hM1⟩
  have hby : JBy { J with safe := J.log.length } := ⟨z.by_.s, z.by_.l, z.by_.n⟩
  have k1 : Kp Emp W w1 := z.k.then hk1 fun b hb (q : b = j) => by omega
  refine trace_ok h1 hby (fun x hx => by have := z.len x hx; omega) fun w2 tv ob svs hk2 sl2 hsl => ?_
  refine sl2.ln ?_
  refine hs.ln ?_
  have e1 : svs.length = xs.length := by rw [hsl]; exact hn
  have e2 : (((svs.length : Nat) : Int) != ((xs.length : Nat) : Int)) = false := by rw [e1]; simp
  simp only [e2, e_fd, e_nck, e_pkt, e_pkf, e_gdtt, e_gdtf, e_gdft, e_gdff, e_ift, e_iff, e_not, e_ln, e_lnT, e_cp, e_cvi, e_ex20, e_ex21, e_ex30, e_ex31, e_ex32, e_add, e_sub, e_mul, e_quo, e_rem, e_and, e_or, e_xor, e_shl, e_shr, e_eql, e_neq, e_lss, e_leq, e_gtr, e_geq, e_beq, e_bne, e_peq1, e_peq2, e_pne1, e_pne2, e_zeq1, e_zeq2, e_zne1, e_zne2, e_feq1, e_fne1, e_feq2, e_fne2, e_seq, e_sne, e_ta1, e_ta2, Nat.zero_add, Nat.add_zero, Bool.not_true, Bool.not_false]
  refine park_ok fun w3 l3 hk3 hc3 => ?_
  have h3 := (h1.kp' hk2).kp' hk3
  have k3 := (k1.trans hk2).trans hk3
  have jlt := (h1.kp' hk2).lt j h1.mj
  have own : ∀ b, OwnJ j lob b → W.heap.size ≤ b := fun b q => hM b (h.own q)
  rcases opn_rec (C := park) (J := { J with safe := J.log.length }) park_cv z.off z.left hby with ⟨q1, q2⟩ | ⟨σ, q1, g⟩
  · refine open_ok hc3 park_v (by decide) h3 (fun b q => by have := q.1; omega) hby (fun _ w4 M4 lob4 ev hx4 hk4 ho4 jn4 her => ?_) (fun σ' hs' => by rw [q1] at hs'; cases hs')
    rw [q2] at her
    have e20 : ((20 : Int) == 20) = true := rfl
    simp only [ex2_0, ex2_1]
    obtain ⟨eb, s, rfl, re⟩ := id her
    try simp only [e_fd, e_nck, e_pkt, e_pkf, e_gdtt, e_gdtf, e_gdft, e_gdff, e_ift, e_iff, e_not, e_ln, e_lnT, e_cp, e_cvi, e_ex20, e_ex21, e_ex30, e_ex31, e_ex32, e_add, e_sub, e_mul, e_quo, e_rem, e_and, e_or, e_xor, e_shl, e_shr, e_eql, e_neq, e_lss, e_leq, e_gtr, e_geq, e_beq, e_bne, e_peq1, e_peq2, e_pne1, e_pne2, e_zeq1, e_zeq2, e_zne1, e_zne2, e_feq1, e_fne1, e_feq2, e_fne2, e_seq, e_sne, e_ta1, e_ta2, Nat.zero_add, Nat.add_zero, Bool.not_true, Bool.not_false]
    refine codeOf_ok her ?_
    simp only [e20, e_fd, e_nck, e_pkt, e_pkf, e_gdtt, e_gdtf, e_gdft, e_gdff, e_ift, e_iff, e_not, e_ln, e_lnT, e_cp, e_cvi, e_ex20, e_ex21, e_ex30, e_ex31, e_ex32, e_add, e_sub, e_mul, e_quo, e_rem, e_and, e_or, e_xor, e_shl, e_shr, e_eql, e_neq, e_lss, e_leq, e_gtr, e_geq, e_beq, e_bne, e_peq1, e_peq2, e_pne1, e_pne2, e_zeq1, e_zeq2, e_zne1, e_zne2, e_feq1, e_fne1, e_feq2, e_fne2, e_seq, e_sne, e_ta1, e_ta2, Nat.zero_add, Nat.add_zero, Bool.not_true, Bool.not_false]
    exact ⟨trivial, (k3.then hk4 fun b hb q => by have := own b q; omega).below'⟩
  · refine open_ok hc3 park_v (by decide) h3 (fun b q => by have := q.1; omega) hby (fun hno => by rw [q1] at hno; cases hno) (fun σ' hs' w4 M4 e m hx4 hk4 hmj hown hel he4 => ?_)
    rw [q1] at hs'
    have e1 := Option.some.inj hs'
    subst e1
    simp only [ex2_0, ex2_1, e_fd, e_nck, e_pkt, e_pkf, e_gdtt, e_gdtf, e_gdft, e_gdff, e_ift, e_iff, e_not, e_ln, e_lnT, e_cp, e_cvi, e_ex20, e_ex21, e_ex30, e_ex31, e_ex32, e_add, e_sub, e_mul, e_quo, e_rem, e_and, e_or, e_xor, e_shl, e_shr, e_eql, e_neq, e_lss, e_leq, e_gtr, e_geq, e_beq, e_bne, e_peq1, e_peq2, e_pne1, e_pne2, e_zeq1, e_zeq2, e_zne1, e_zne2, e_feq1, e_fne1, e_feq2, e_fne2, e_seq, e_sne, e_ta1, e_ta2, Nat.zero_add, Nat.add_zero, Bool.not_true, Bool.not_false]
    refine audit_ok he4 park_cv (g.imn park_cv _) g.li.len fun w5 hk5 => ?_
    have hch : chkImg park (img park σ) = true := g.chk park_cv
    rw [hch]
    exact ⟨rfl, ((k3.then hk4 fun b hb q => by have := own b q; omega).trans hk5).below'⟩
set_option maxHeartbeats 2000000 in
theorem recov_walk (hs : Scr W v xs) : cl Tryz.prog 6 #[v] (fun e W' => e = .bool true ∧ Below W.heap.size W W') W := by
  apply c6
  unfold s6_p10
  refine small_ok hs (Kp.refl _ _) fun rr hr => ?_
  cases rr with
  | false =>
    simp only [Bool.not_false, e_fd, e_nck, e_pkt, e_pkf, e_gdtt, e_gdtf, e_gdft, e_gdff, e_ift, e_iff, e_not, e_ln, e_lnT, e_cp, e_cvi, e_ex20, e_ex21, e_ex30, e_ex31, e_ex32, e_add, e_sub, e_mul, e_quo, e_rem, e_and, e_or, e_xor, e_shl, e_shr, e_eql, e_neq, e_lss, e_leq, e_gtr, e_geq, e_beq, e_bne, e_peq1, e_peq2, e_pne1, e_pne2, e_zeq1, e_zeq2, e_zne1, e_zne2, e_feq1, e_fne1, e_feq2, e_fne2, e_seq, e_sne, e_ta1, e_ta2, Nat.zero_add, Nat.add_zero, Bool.not_true, Bool.not_false]
    exact ⟨trivial, (Kp.refl _ _).below'⟩
  | true =>
    obtain ⟨hxl, hbl⟩ := hr rfl
    simp only [Bool.not_true, e_fd, e_nck, e_pkt, e_pkf, e_gdtt, e_gdtf, e_gdft, e_gdff, e_ift, e_iff, e_not, e_ln, e_lnT, e_cp, e_cvi, e_ex20, e_ex21, e_ex30, e_ex31, e_ex32, e_add, e_sub, e_mul, e_quo, e_rem, e_and, e_or, e_xor, e_shl, e_shr, e_eql, e_neq, e_lss, e_leq, e_gtr, e_geq, e_beq, e_bne, e_peq1, e_peq2, e_pne1, e_pne2, e_zeq1, e_zeq2, e_zne1, e_zne2, e_feq1, e_fne1, e_feq2, e_fne2, e_seq, e_sne, e_ta1, e_ta2, Nat.zero_add, Nat.add_zero, Bool.not_true, Bool.not_false]
    refine pj_ok2 fun w1 hk1 => ?_
    refine jnew_ok (M := Emp) (b := 72) ⟨by decide, by decide⟩ (fun b q => q.elim) fun w2 M2 j hx2 hk2 hj2 jn2 => ?_
    have hs0 := hs
    obtain ⟨its, h1, h2, h3⟩ := hs
    have hil : its.length = xs.length := by rw [← h1, List.length_map]
    have hbl' : ∀ p ∈ its, p.1.bs.length ≤ 65536 := fun p hp => hbl _ (by rw [← h1]; exact List.mem_map_of_mem hp)
    have sz1 := hk1.size
    have z2 : Fl W w2 j pj0 0 := ⟨⟨M2, none, jn2, fun b q => by rcases hx2.new b q with q | q; exact q.elim; omega⟩, hk1.trans hk2, rfl, rfl, rfl, ⟨(fun x hx => by cases hx), (fun x hx => by cases hx), by simp [pj0]⟩, (fun x hx => by cases hx), rfl, by simp [pj0, tot]⟩
    refine h2.ln ?_
    unfold s6_p9
    refine loop_n its.length (fun i l w' => ∃ J, l = [v, P j 0, v, I (its.length : Nat), I (i : Nat)] ∧ Fl W w' j J i) ⟨_, rfl, z2⟩ ?_ ?_
    · rintro i l w3 hi ⟨J, rfl, z3⟩ B hB
      rw [s6_p9_Fe]
      unfold s6_p8
      have hp := h3 _ (List.getElem_mem hi)
      have hbi := hbl' _ (List.getElem_mem hi)
      simp only [dlt hi, e_lss, e_ift]
      unfold s6_p7
      refine each_r rfl (h2.kp' z3.k) hi (opC_len _) (by simp only [opC, List.all_cons, List.all_nil, hp.1.scal]; rfl) fun w4 r4 hk4 hz4 => ?_
      have z4 := z3.emp hk4
      generalize its[i] = op at hp hbi r4 ⊢
      have next : ∀ (w6 : World) (J' : Jr), Fl W w6 j J' (i + 1) → s6_p2 (fun e W' => e = .bool true ∧ Below W.heap.size W W') B v (P j 0) v (I (its.length : Nat)) (I (i : Nat)) w6 := fun w6 J' z6 => by
        unfold s6_p2
        simp only [e_add]
        rw [inc i (by omega)]
        exact hB _ _ ⟨J', rfl, z6⟩
      have p6f : s6_p6 (fun e W' => e = .bool true ∧ Below W.heap.size W W') B v (P j 0) (P w3.heap.size 0) v (I (its.length : Nat)) (I (i : Nat)) (.bool false) w4 := by
        unfold s6_p6
        simp only [e_iff]
        exact fl_log z4 (by omega) r4 hp.1 hp.2.1 hbi next
      by_cases h0 : i = 0
      · subst h0
        have e0 : ((((0 : Nat) : Int)) == 0) = true := rfl
        simp only [e_eql, e0, e_gdtt, e_fd]
        refine ld1_r (v := I op.1.keep) r4 rfl ?_
        simp only [e_gdtt, e_rem, e_eql, e_pkt]
        refine ⟨by decide, ?_⟩
        cases hk : (op.1.keep.tmod 2 == 1) with
        | false => exact p6f
        | true =>
          unfold s6_p6
          simp only [e_ift]
          exact fl_snap z4 r4 hp.1 hp.2.1 hbi next
      · have e0 : ((((i : Nat) : Int)) == 0) = false := by rw [beq_eq_false_iff_ne]; omega
        simp only [e_eql, e0, e_gdft, e_pkf]
        exact p6f
    · rintro l w3 ⟨J, rfl, z3⟩ B
      rw [s6_p9_Fe]
      unfold s6_p8
      simp only [dnlt, e_lss, e_iff]
      rw [hil] at z3
      exact fl_end (n := 0) hs0 z3 hxl
end
end Go.Proofs.Qxb6500896aGreatDoor
