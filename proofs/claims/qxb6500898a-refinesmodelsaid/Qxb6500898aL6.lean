import Derived.Test.Qxb6500898aV24
namespace Go.Proofs.Qxb6500898a
open Go.Sh Go.RowKit
set_option linter.unusedVariables false
set_option linter.unusedSimpArgs false

section
variable {W w w' w0 w2 : World} {v d t wv rv dv t0 t1 t2 : Value} {ob wob wob0 : Option Nat} {mb b e m n i k : Nat} {xs ys zs pr da X Y : List Int} {K : Value → World → Prop} {B1 : List Value → World → Prop} {S S' : Nat → Prop} {L : List Value} {q c z : Int} {little : Bool} {s s' s0 : Mst} {o : Op}
theorem foldT3 (hn : 0 < n) (lx : xs.length = n) (ly : ys.length = n) (lz : zs.length = n) : foldT (xs ++ ys ++ zs) n = val xs + val ys + val zs := by
  unfold foldT
  have hl : (xs ++ ys ++ zs).length / n = 3 := by
    rw [List.length_append, List.length_append, lx, ly, lz, show n + n + n = 3 * n by omega]
    exact Nat.mul_div_cancel _ hn
  rw [hl]
  have p0 : pce (xs ++ ys ++ zs) n 0 = xs := by unfold pce; rw [Nat.zero_mul, List.drop_zero, List.append_assoc, List.take_left' lx]
  have p1 : pce (xs ++ ys ++ zs) n 1 = ys := by unfold pce; rw [Nat.one_mul, List.append_assoc, List.drop_left' lx, List.take_left' ly]
  have p2 : pce (xs ++ ys ++ zs) n 2 = zs := by
    unfold pce
    rw [List.drop_left' (by rw [List.length_append]; omega), List.take_of_length_le (by omega)]
  simp only [sumN, p0, p1, p2]
  omega
theorem val_zero : val (List.replicate n 0) = 0 := by
  induction n with
  | zero => rfl
  | succ n ih => rw [List.replicate_succ, val, ih]; simp
theorem val_ones : val (List.replicate n 255) = 256 ^ n - 1 := by
  induction n with
  | zero => rfl
  | succ n ih => rw [List.replicate_succ, val, ih, List.length_replicate, Int.pow_succ]; omega
theorem val_pos (hx : By xs) (h : ¬ ∀ x ∈ xs, x = 0) : 0 < val xs := by
  have hr := val_rng hx
  rcases Int.lt_or_eq_of_le hr.1 with q | q
  · exact q
  · exfalso
    apply h
    have : xs = List.replicate xs.length 0 := val_inj hx (fun x hx => by have := List.eq_of_mem_replicate hx; omega) (by simp) (by rw [val_zero]; exact q.symm)
    exact (List.eq_replicate_iff.1 this).2
theorem rep_by {z : Int} (hz : 0 ≤ z ∧ z ≤ 255) : By (List.replicate n z) := fun x hx => by have := List.eq_of_mem_replicate hx; omega
theorem sum_end (h0 : Bs w t0 xs) (h1 : Bs w t1 ys) (h2 : Bs w t2 zs) (lx : xs.length = n) (ly : ys.length = n) (lz : zs.length = n) (hn : n ≤ 100000000000) (hK : ∀ w', Kp (fun _ => False) w w' → K (.bool true) w') : s24_p1 K t0 t1 t2 w := by
  have hx : By xs := h0.by_
  have hy : By ys := h1.by_
  have hz : By zs := h2.by_
  unfold s24_p1
  refine h0.ln ?_
  try simp only [e_fd, e_nck, e_pkt, e_pkf, e_gdtt, e_gdtf, e_gdft, e_gdff, e_ift, e_iff, e_not, e_ln, e_lnT, e_cp, e_cvi, e_ex20, e_ex21, e_ex30, e_ex31, e_ex32, e_add, e_sub, e_mul, e_quo, e_rem, e_and, e_or, e_xor, e_shl, e_shr, e_eql, e_neq, e_lss, e_leq, e_gtr, e_geq, e_beq, e_bne, e_peq1, e_peq2, e_pne1, e_pne2, e_zeq1, e_zeq2, e_zne1, e_zne2, e_feq1, e_fne1, e_feq2, e_fne2, e_seq, e_sne, e_ta1, e_ta2, Nat.zero_add, Nat.add_zero, Bool.not_true, Bool.not_false]
  by_cases hz0 : n = 0
  · have e : (((xs.length : Nat) : Int) == 0) = true := by rw [lx, hz0]; rfl
    simp only [e, e_fd, e_nck, e_pkt, e_pkf, e_gdtt, e_gdtf, e_gdft, e_gdff, e_ift, e_iff, e_not, e_ln, e_lnT, e_cp, e_cvi, e_ex20, e_ex21, e_ex30, e_ex31, e_ex32, e_add, e_sub, e_mul, e_quo, e_rem, e_and, e_or, e_xor, e_shl, e_shr, e_eql, e_neq, e_lss, e_leq, e_gtr, e_geq, e_beq, e_bne, e_peq1, e_peq2, e_pne1, e_pne2, e_zeq1, e_zeq2, e_zne1, e_zne2, e_feq1, e_fne1, e_feq2, e_fne2, e_seq, e_sne, e_ta1, e_ta2, Nat.zero_add, Nat.add_zero, Bool.not_true, Bool.not_false]
    exact hK w (Kp.refl _ _)
  have e : (((xs.length : Nat) : Int) == 0) = false := by rw [beq_eq_false_iff_ne]; omega
  simp only [e, e_fd, e_nck, e_pkt, e_pkf, e_gdtt, e_gdtf, e_gdft, e_gdff, e_ift, e_iff, e_not, e_ln, e_lnT, e_cp, e_cvi, e_ex20, e_ex21, e_ex30, e_ex31, e_ex32, e_add, e_sub, e_mul, e_quo, e_rem, e_and, e_or, e_xor, e_shl, e_shr, e_eql, e_neq, e_lss, e_leq, e_gtr, e_geq, e_beq, e_bne, e_peq1, e_peq2, e_pne1, e_pne2, e_zeq1, e_zeq2, e_zne1, e_zne2, e_feq1, e_fne1, e_feq2, e_fne2, e_seq, e_sne, e_ta1, e_ta2, Nat.zero_add, Nat.add_zero, Bool.not_true, Bool.not_false]
  refine copy_ok h0 (by omega) fun w1 b1 v1 s1 hb1 hk1 => ?_
  refine appV (F := U8) (fun _ => rfl) s1 (h1.kp' hk1).vs (by omega) (by omega) fun w2 v2 ob2 s2 hk2 ho2 => ?_
  have sz1 := hk1.size
  have k2 : Kp (fun _ => False) w w2 := hk1.then hk2 (fun k hk (q : some _ = some k) => by cases q; omega)
  have hob2 : ∃ b2, ob2 = some b2 ∧ w.heap.size ≤ b2 := by
    rcases ho2 with q | ⟨c, q, hc⟩
    · exact ⟨_, q, hb1⟩
    · exact ⟨c, q, by omega⟩
  obtain ⟨b2, rfl, hb2⟩ := hob2
  have s2' : Sl u1 1 w2 5 (some b2) v2 (xs ++ ys) := s2
  refine appV (F := U8) (fun _ => rfl) s2' (h2.kp' k2).vs (by rw [List.length_append]; omega) (by rw [List.length_append]; omega) fun w3 v3 ob3 s3 hk3 ho3 => ?_
  have sz2 := k2.size
  have k3 : Kp (fun _ => False) w w3 := k2.then hk3 (fun k hk (q : some _ = some k) => by cases q; omega)
  have s3' : Sl u1 1 w3 5 ob3 v3 (xs ++ ys ++ zs) := s3
  have hby3 : By (xs ++ ys ++ zs) := (hx.app hy).app hz
  have hl3 : (xs ++ ys ++ zs).length = 3 * n := by rw [List.length_append, List.length_append]; omega
  refine (h0.kp' k3).ln ?_
  rw [lx]
  refine filled_ok (by decide) hn fun w4 b4 r4 hb4 hk4 => ?_
  have k4 := k3.trans hk4
  have m4 : Mv w4 (sv b4 0 n n) (some b4) 0 (List.replicate n 90) [] [] := by
    have := mv_row r4 (rep_by (by decide)) (by simp; omega)
    simpa using this
  have s4 := s3'.kp' hk4
  have hne : ∀ b, ob3 = some b → b ≠ b4 := fun b hb e => by
    obtain ⟨l, hr⟩ := s3'.row hb
    have := hr.lt
    omega
  have hm : (xs ++ ys ++ zs).length % (List.replicate n (90 : Int)).length = 0 := by rw [hl3, List.length_replicate]; exact Nat.mul_mod_left _ _
  have sz4 := k3.size
  refine foldOnes_ok m4 (fun w5 hk5 => sl_bs (s4.kp hk5 (fun b hb (q : some b4 = some b) => by cases q; exact hne _ hb rfl)) hby3 (by omega)) (by omega) (fun hN => ?_) fun hY w5 ws m5 hlw hres hk5 hz5 => ?_
  · exfalso
    rw [hm] at hN
    simp at hN
    rcases hN with q | q
    · exact hz0 q
    · have : xs.length = 0 := by rw [q.1]; rfl
      omega
  have k5 : Kp (fun _ => False) w w5 := k4.then hk5 (fun k hk (q : some _ = some k) => by cases q; omega)
  rw [List.length_replicate] at hres hlw
  rw [foldT3 (by omega) lx ly lz] at hres
  try simp only [e_fd, e_nck, e_pkt, e_pkf, e_gdtt, e_gdtf, e_gdft, e_gdff, e_ift, e_iff, e_not, e_ln, e_lnT, e_cp, e_cvi, e_ex20, e_ex21, e_ex30, e_ex31, e_ex32, e_add, e_sub, e_mul, e_quo, e_rem, e_and, e_or, e_xor, e_shl, e_shr, e_eql, e_neq, e_lss, e_leq, e_gtr, e_geq, e_beq, e_bne, e_peq1, e_peq2, e_pne1, e_pne2, e_zeq1, e_zeq2, e_zne1, e_zne2, e_feq1, e_fne1, e_feq2, e_fne2, e_seq, e_sne, e_ta1, e_ta2, Nat.zero_add, Nat.add_zero, Bool.not_true, Bool.not_false]
  refine sum_ok (h0.kp' k5) (h1.kp' k5) (by omega) (by omega) fun w6 v6 r1 b6 by6 l6 res6 hk6 => ?_
  have k6 := k5.trans hk6
  try simp only [e_fd, e_nck, e_pkt, e_pkf, e_gdtt, e_gdtf, e_gdft, e_gdff, e_ift, e_iff, e_not, e_ln, e_lnT, e_cp, e_cvi, e_ex20, e_ex21, e_ex30, e_ex31, e_ex32, e_add, e_sub, e_mul, e_quo, e_rem, e_and, e_or, e_xor, e_shl, e_shr, e_eql, e_neq, e_lss, e_leq, e_gtr, e_geq, e_beq, e_bne, e_peq1, e_peq2, e_pne1, e_pne2, e_zeq1, e_zeq2, e_zne1, e_zne2, e_feq1, e_fne1, e_feq2, e_fne2, e_seq, e_sne, e_ta1, e_ta2, Nat.zero_add, Nat.add_zero, Bool.not_true, Bool.not_false]
  rw [lx] at l6 res6
  refine sum_ok b6 (h2.kp' k6) (by omega) (by omega) fun w7 v7 r2 b7 by7 l7 res7 hk7 => ?_
  have k7 := k6.trans hk7
  try simp only [e_fd, e_nck, e_pkt, e_pkf, e_gdtt, e_gdtf, e_gdft, e_gdff, e_ift, e_iff, e_not, e_ln, e_lnT, e_cp, e_cvi, e_ex20, e_ex21, e_ex30, e_ex31, e_ex32, e_add, e_sub, e_mul, e_quo, e_rem, e_and, e_or, e_xor, e_shl, e_shr, e_eql, e_neq, e_lss, e_leq, e_gtr, e_geq, e_beq, e_bne, e_peq1, e_peq2, e_pne1, e_pne2, e_zeq1, e_zeq2, e_zne1, e_zne2, e_feq1, e_fne1, e_feq2, e_fne2, e_seq, e_sne, e_ta1, e_ta2, Nat.zero_add, Nat.add_zero, Bool.not_true, Bool.not_false]
  rw [l6] at l7 res7
  have rr := res6.more res7 (val_rng by6).1 (val_rng hz).1
  have heq : ws = r2 := res_eq hres rr m5.by_ by7 hlw l7
  subst heq
  refine same_self (m5.kp' (hk6.trans hk7)).bs b7 fun w8 hk8 => ?_
  try simp only [e_fd, e_nck, e_pkt, e_pkf, e_gdtt, e_gdtf, e_gdft, e_gdff, e_ift, e_iff, e_not, e_ln, e_lnT, e_cp, e_cvi, e_ex20, e_ex21, e_ex30, e_ex31, e_ex32, e_add, e_sub, e_mul, e_quo, e_rem, e_and, e_or, e_xor, e_shl, e_shr, e_eql, e_neq, e_lss, e_leq, e_gtr, e_geq, e_beq, e_bne, e_peq1, e_peq2, e_pne1, e_pne2, e_zeq1, e_zeq2, e_zne1, e_zne2, e_feq1, e_fne1, e_feq2, e_fne2, e_seq, e_sne, e_ta1, e_ta2, Nat.zero_add, Nat.add_zero, Bool.not_true, Bool.not_false]
  exact hK w8 (k7.trans hk8)
theorem sumHolds_ok (h0 : Bs w t0 xs) (h1 : Bs w t1 ys) (h2 : Bs w t2 zs) (lx : xs.length = n) (ly : ys.length = n) (lz : zs.length = n) (hn : n ≤ 100000000000) (hK : ∀ w', Kp (fun _ => False) w w' → K (.bool true) w') : cl Try.prog 24 #[t0, t1, t2] K w := by
  have hx : By xs := h0.by_
  have hy : By ys := h1.by_
  have hz : By zs := h2.by_
  have rx := val_rng hx
  apply c24
  unfold s24_p2
  refine add_ok h0 h1 (by omega) (by omega) (fun q => absurd (by omega) q) fun _ w1 b1 v1 aa s1 hb1 ba la res1 hk1 => ?_
  rw [lx] at la res1
  have a1 := sl_bs s1 ba (by omega)
  try simp only [e_fd, e_nck, e_pkt, e_pkf, e_gdtt, e_gdtf, e_gdft, e_gdff, e_ift, e_iff, e_not, e_ln, e_lnT, e_cp, e_cvi, e_ex20, e_ex21, e_ex30, e_ex31, e_ex32, e_add, e_sub, e_mul, e_quo, e_rem, e_and, e_or, e_xor, e_shl, e_shr, e_eql, e_neq, e_lss, e_leq, e_gtr, e_geq, e_beq, e_bne, e_peq1, e_peq2, e_pne1, e_pne2, e_zeq1, e_zeq2, e_zne1, e_zne2, e_feq1, e_fne1, e_feq2, e_fne2, e_seq, e_sne, e_ta1, e_ta2, Nat.zero_add, Nat.add_zero, Bool.not_true, Bool.not_false]
  refine sum_ok (h0.kp' hk1) (h1.kp' hk1) (by omega) (by omega) fun w2 v2 r2 b2 by2 l2 res2 hk2 => ?_
  have k2 := hk1.trans hk2
  rw [lx] at l2 res2
  have e2 : r2 = aa := res_eq res2 res1 by2 ba l2 la
  subst e2
  refine same_self b2 (a1.kp' hk2) fun w3 hk3 => ?_
  have k3 := k2.trans hk3
  simp only [Bool.not_true, e_fd, e_nck, e_pkt, e_pkf, e_gdtt, e_gdtf, e_gdft, e_gdff, e_ift, e_iff, e_not, e_ln, e_lnT, e_cp, e_cvi, e_ex20, e_ex21, e_ex30, e_ex31, e_ex32, e_add, e_sub, e_mul, e_quo, e_rem, e_and, e_or, e_xor, e_shl, e_shr, e_eql, e_neq, e_lss, e_leq, e_gtr, e_geq, e_beq, e_bne, e_peq1, e_peq2, e_pne1, e_pne2, e_zeq1, e_zeq2, e_zne1, e_zne2, e_feq1, e_fne1, e_feq2, e_fne2, e_seq, e_sne, e_ta1, e_ta2, Nat.zero_add, Nat.add_zero, Bool.not_true, Bool.not_false]
  refine sum_ok (h1.kp' k3) (h0.kp' k3) (by omega) (by omega) fun w4 v4 r4 b4 by4 l4 res4 hk4 => ?_
  have k4 := k3.trans hk4
  rw [ly] at l4 res4
  rw [Int.add_comm] at res4
  have e4 : r4 = r2 := res_eq res4 res1 by4 ba l4 la
  subst e4
  try simp only [e_fd, e_nck, e_pkt, e_pkf, e_gdtt, e_gdtf, e_gdft, e_gdff, e_ift, e_iff, e_not, e_ln, e_lnT, e_cp, e_cvi, e_ex20, e_ex21, e_ex30, e_ex31, e_ex32, e_add, e_sub, e_mul, e_quo, e_rem, e_and, e_or, e_xor, e_shl, e_shr, e_eql, e_neq, e_lss, e_leq, e_gtr, e_geq, e_beq, e_bne, e_peq1, e_peq2, e_pne1, e_pne2, e_zeq1, e_zeq2, e_zne1, e_zne2, e_feq1, e_fne1, e_feq2, e_fne2, e_seq, e_sne, e_ta1, e_ta2, Nat.zero_add, Nat.add_zero, Bool.not_true, Bool.not_false]
  refine same_self b4 (a1.kp' (hk2.trans (hk3.trans hk4))) fun w5 hk5 => ?_
  have k5 := k4.trans hk5
  simp only [Bool.not_true, e_fd, e_nck, e_pkt, e_pkf, e_gdtt, e_gdtf, e_gdft, e_gdff, e_ift, e_iff, e_not, e_ln, e_lnT, e_cp, e_cvi, e_ex20, e_ex21, e_ex30, e_ex31, e_ex32, e_add, e_sub, e_mul, e_quo, e_rem, e_and, e_or, e_xor, e_shl, e_shr, e_eql, e_neq, e_lss, e_leq, e_gtr, e_geq, e_beq, e_bne, e_peq1, e_peq2, e_pne1, e_pne2, e_zeq1, e_zeq2, e_zne1, e_zne2, e_feq1, e_fne1, e_feq2, e_fne2, e_seq, e_sne, e_ta1, e_ta2, Nat.zero_add, Nat.add_zero, Bool.not_true, Bool.not_false]
  -- associativity
  refine sum_ok (h0.kp' k5) (h1.kp' k5) (by omega) (by omega) fun w6 v6 r6 b6 by6 l6 res6 hk6 => ?_
  have k6 := k5.trans hk6
  rw [lx] at l6 res6
  refine sum_ok b6 (h2.kp' k6) (by omega) (by omega) fun w7 v7 r7 b7 by7 l7 res7 hk7 => ?_
  have k7 := k6.trans hk7
  rw [l6] at l7 res7
  refine sum_ok (h1.kp' k7) (h2.kp' k7) (by omega) (by omega) fun w8 v8 r8 b8 by8 l8 res8 hk8 => ?_
  have k8 := k7.trans hk8
  rw [ly] at l8 res8
  refine sum_ok (h0.kp' k8) b8 (by omega) (by omega) fun w9 v9 r9 b9 by9 l9 res9 hk9 => ?_
  have k9 := k8.trans hk9
  rw [lx] at l9 res9
  have q1 := res6.more res7 (val_rng by6).1 (val_rng hz).1
  rw [Int.add_comm (val xs) (val r8)] at res9
  have q2 := res8.more res9 (val_rng by8).1 rx.1
  rw [show val ys + val zs + val xs = val xs + val ys + val zs by omega] at q2
  have e9 : r7 = r9 := res_eq q1 q2 by7 by9 l7 l9
  subst e9
  refine same_self (b7.kp' (hk8.trans hk9)) b9 fun w10 hk10 => ?_
  have k10 := k9.trans hk10
  simp only [Bool.not_true, e_fd, e_nck, e_pkt, e_pkf, e_gdtt, e_gdtf, e_gdft, e_gdff, e_ift, e_iff, e_not, e_ln, e_lnT, e_cp, e_cvi, e_ex20, e_ex21, e_ex30, e_ex31, e_ex32, e_add, e_sub, e_mul, e_quo, e_rem, e_and, e_or, e_xor, e_shl, e_shr, e_eql, e_neq, e_lss, e_leq, e_gtr, e_geq, e_beq, e_bne, e_peq1, e_peq2, e_pne1, e_pne2, e_zeq1, e_zeq2, e_zne1, e_zne2, e_feq1, e_fne1, e_feq2, e_fne2, e_seq, e_sne, e_ta1, e_ta2, Nat.zero_add, Nat.add_zero, Bool.not_true, Bool.not_false]
  -- zero
  refine (h0.kp' k10).ln ?_
  rw [lx]
  refine mks_r (n := n) (by omega) (by omega) fun w11 r11 hk11 hz11 => ?_
  have k11 := k10.trans hk11
  have b11 : Bs w11 (sv w10.heap.size 0 n n) (List.replicate n 0) := by
    have := (mv_row (xs := List.replicate n 0) (b := w10.heap.size) (w := w11) (by simpa using r11) (rep_by (by decide)) (by simp; omega)).bs
    simpa using this
  refine sum_ok (h0.kp' k11) b11 (by omega) (by simp; omega) fun w12 v12 r12 b12 by12 l12 res12 hk12 => ?_
  have k12 := k11.trans hk12
  rw [lx] at l12 res12
  rw [val_zero, Int.add_zero] at res12
  have e12 : r12 = xs := res_eq res12 Res.refl by12 hx l12 lx
  subst e12
  refine same_self b12 (h0.kp' k12) fun w13 hk13 => ?_
  have k13 := k12.trans hk13
  simp only [Bool.not_true, e_fd, e_nck, e_pkt, e_pkf, e_gdtt, e_gdtf, e_gdft, e_gdff, e_ift, e_iff, e_not, e_ln, e_lnT, e_cp, e_cvi, e_ex20, e_ex21, e_ex30, e_ex31, e_ex32, e_add, e_sub, e_mul, e_quo, e_rem, e_and, e_or, e_xor, e_shl, e_shr, e_eql, e_neq, e_lss, e_leq, e_gtr, e_geq, e_beq, e_bne, e_peq1, e_peq2, e_pne1, e_pne2, e_zeq1, e_zeq2, e_zne1, e_zne2, e_feq1, e_fne1, e_feq2, e_fne2, e_seq, e_sne, e_ta1, e_ta2, Nat.zero_add, Nat.add_zero, Bool.not_true, Bool.not_false]
  -- ones
  refine (h0.kp' k13).ln ?_
  rw [lx]
  refine filled_ok (by decide) hn fun w14 b14 r14 hb14 hk14 => ?_
  have k14 := k13.trans hk14
  have o14 : Bs w14 (sv b14 0 n n) (List.replicate n 255) := by
    have := (mv_row r14 (rep_by (by decide)) (by simp; omega)).bs
    simpa using this
  refine allZero_ok (h0.kp' k14) (by omega) ?_
  by_cases ha : ∀ x ∈ r12, x = 0
  · rw [decide_eq_true ha]
    try simp only [e_fd, e_nck, e_pkt, e_pkf, e_gdtt, e_gdtf, e_gdft, e_gdff, e_ift, e_iff, e_not, e_ln, e_lnT, e_cp, e_cvi, e_ex20, e_ex21, e_ex30, e_ex31, e_ex32, e_add, e_sub, e_mul, e_quo, e_rem, e_and, e_or, e_xor, e_shl, e_shr, e_eql, e_neq, e_lss, e_leq, e_gtr, e_geq, e_beq, e_bne, e_peq1, e_peq2, e_pne1, e_pne2, e_zeq1, e_zeq2, e_zne1, e_zne2, e_feq1, e_fne1, e_feq2, e_fne2, e_seq, e_sne, e_ta1, e_ta2, Nat.zero_add, Nat.add_zero, Bool.not_true, Bool.not_false]
    refine sum_ok (h0.kp' k14) o14 (by omega) (by simp; omega) fun w15 v15 r15 b15 by15 l15 res15 hk15 => ?_
    have k15 := k14.trans hk15
    rw [lx] at l15 res15
    have hv0 : val r12 = 0 := by rw [List.eq_replicate_iff.2 ⟨rfl, ha⟩]; exact val_zero
    rw [hv0, Int.zero_add] at res15
    have e15 : r15 = List.replicate n 255 := res_eq res15 Res.refl by15 (rep_by (by decide)) l15 (by simp)
    subst e15
    refine same_self b15 (o14.kp' hk15) fun w16 hk16 => ?_
    have k16 := k15.trans hk16
    simp only [Bool.not_true, e_fd, e_nck, e_pkt, e_pkf, e_gdtt, e_gdtf, e_gdft, e_gdff, e_ift, e_iff, e_not, e_ln, e_lnT, e_cp, e_cvi, e_ex20, e_ex21, e_ex30, e_ex31, e_ex32, e_add, e_sub, e_mul, e_quo, e_rem, e_and, e_or, e_xor, e_shl, e_shr, e_eql, e_neq, e_lss, e_leq, e_gtr, e_geq, e_beq, e_bne, e_peq1, e_peq2, e_pne1, e_pne2, e_zeq1, e_zeq2, e_zne1, e_zne2, e_feq1, e_fne1, e_feq2, e_fne2, e_seq, e_sne, e_ta1, e_ta2, Nat.zero_add, Nat.add_zero, Bool.not_true, Bool.not_false]
    exact sum_end (h0.kp' k16) (h1.kp' k16) (h2.kp' k16) lx ly lz hn fun w' hk => hK w' (k16.trans hk)
  · rw [decide_eq_false ha]
    try simp only [e_fd, e_nck, e_pkt, e_pkf, e_gdtt, e_gdtf, e_gdft, e_gdff, e_ift, e_iff, e_not, e_ln, e_lnT, e_cp, e_cvi, e_ex20, e_ex21, e_ex30, e_ex31, e_ex32, e_add, e_sub, e_mul, e_quo, e_rem, e_and, e_or, e_xor, e_shl, e_shr, e_eql, e_neq, e_lss, e_leq, e_gtr, e_geq, e_beq, e_bne, e_peq1, e_peq2, e_pne1, e_pne2, e_zeq1, e_zeq2, e_zne1, e_zne2, e_feq1, e_fne1, e_feq2, e_fne2, e_seq, e_sne, e_ta1, e_ta2, Nat.zero_add, Nat.add_zero, Bool.not_true, Bool.not_false]
    refine sum_ok (h0.kp' k14) o14 (by omega) (by simp; omega) fun w15 v15 r15 b15 by15 l15 res15 hk15 => ?_
    have k15 := k14.trans hk15
    rw [lx] at l15 res15
    have hp := val_pos hx ha
    rw [val_ones] at res15
    have hpw := pw_pos n
    have e15 : r15 = r12 := res_eq res15 ⟨1, by omega, by omega, fun _ => hp, fun q => by omega⟩ by15 hx l15 lx
    subst e15
    refine same_self b15 (h0.kp' k15) fun w16 hk16 => ?_
    have k16 := k15.trans hk16
    simp only [Bool.not_true, e_fd, e_nck, e_pkt, e_pkf, e_gdtt, e_gdtf, e_gdft, e_gdff, e_ift, e_iff, e_not, e_ln, e_lnT, e_cp, e_cvi, e_ex20, e_ex21, e_ex30, e_ex31, e_ex32, e_add, e_sub, e_mul, e_quo, e_rem, e_and, e_or, e_xor, e_shl, e_shr, e_eql, e_neq, e_lss, e_leq, e_gtr, e_geq, e_beq, e_bne, e_peq1, e_peq2, e_pne1, e_pne2, e_zeq1, e_zeq2, e_zne1, e_zne2, e_feq1, e_fne1, e_feq2, e_fne2, e_seq, e_sne, e_ta1, e_ta2, Nat.zero_add, Nat.add_zero, Bool.not_true, Bool.not_false]
    exact sum_end (h0.kp' k16) (h1.kp' k16) (h2.kp' k16) lx ly lz hn fun w' hk => hK w' (k16.trans hk)
theorem law6_loop {ops : List Op} (hs : Scr W v ops) (hl : ops.length ≤ 65536) (hall : ∀ x ∈ ops, x.data.length ≤ 65536) (h : LZ W w mb wob wv rv s 0) (hK : ∀ w', Kp (fun _ => False) W w' → K (.bool true) w') : s6_p3 K (Pt mb 0) v (I ops.length) (I (0 : Nat)) w := by
  unfold s6_p3
  refine ⟨fun n l w' => ∃ (j : Nat) (wob : Option Nat) (wv rv : Value) (s : Mst), n + j = ops.length ∧ l = [Pt mb 0, v, I ops.length, I (j : Nat)] ∧ LZ W w' mb wob wv rv s j, ops.length, ⟨0, wob, wv, rv, s, rfl, rfl, h⟩, ?_⟩
  rintro n l w1 ⟨j, wob, wv, rv, s, hn, rfl, h1⟩
  rw [s6_p3_Fe]
  unfold s6_p2
  try simp only [e_fd, e_nck, e_pkt, e_pkf, e_gdtt, e_gdtf, e_gdft, e_gdff, e_ift, e_iff, e_not, e_ln, e_lnT, e_cp, e_cvi, e_ex20, e_ex21, e_ex30, e_ex31, e_ex32, e_add, e_sub, e_mul, e_quo, e_rem, e_and, e_or, e_xor, e_shl, e_shr, e_eql, e_neq, e_lss, e_leq, e_gtr, e_geq, e_beq, e_bne, e_peq1, e_peq2, e_pne1, e_pne2, e_zeq1, e_zeq2, e_zne1, e_zne2, e_feq1, e_fne1, e_feq2, e_fne2, e_seq, e_sne, e_ta1, e_ta2, Nat.zero_add, Nat.add_zero, Bool.not_true, Bool.not_false]
  by_cases hj : j < ops.length
  · have hj' : ((j : Nat) : Int) < ((ops.length : Nat) : Int) := by omega
    simp only [hj', decide_true, e_fd, e_nck, e_pkt, e_pkf, e_gdtt, e_gdtf, e_gdft, e_gdff, e_ift, e_iff, e_not, e_ln, e_lnT, e_cp, e_cvi, e_ex20, e_ex21, e_ex30, e_ex31, e_ex32, e_add, e_sub, e_mul, e_quo, e_rem, e_and, e_or, e_xor, e_shl, e_shr, e_eql, e_neq, e_lss, e_leq, e_gtr, e_geq, e_beq, e_bne, e_peq1, e_peq2, e_pne1, e_pne2, e_zeq1, e_zeq2, e_zne1, e_zne2, e_feq1, e_fne1, e_feq2, e_fne2, e_seq, e_sne, e_ta1, e_ta2, Nat.zero_add, Nat.add_zero, Bool.not_true, Bool.not_false]
    refine h1.step hs hl hall hj fun w2 wob2 wv2 rv2 s2 t5 dv h2 r5 hd hwf hst hz => ?_
    have hlen := h2.len
    have hdl := hall _ (List.getElem_mem hj)
    try simp only [e_fd, e_nck, e_pkt, e_pkf, e_gdtt, e_gdtf, e_gdft, e_gdff, e_ift, e_iff, e_not, e_ln, e_lnT, e_cp, e_cvi, e_ex20, e_ex21, e_ex30, e_ex31, e_ex32, e_add, e_sub, e_mul, e_quo, e_rem, e_and, e_or, e_xor, e_shl, e_shr, e_eql, e_neq, e_lss, e_leq, e_gtr, e_geq, e_beq, e_bne, e_peq1, e_peq2, e_pne1, e_pne2, e_zeq1, e_zeq2, e_zne1, e_zne2, e_feq1, e_fne1, e_feq2, e_fne2, e_seq, e_sne, e_ta1, e_ta2, Nat.zero_add, Nat.add_zero, Bool.not_true, Bool.not_false]
    refine ld1_r h2.ma.row rfl ?_
    try simp only [e_fd, e_nck, e_pkt, e_pkf, e_gdtt, e_gdtf, e_gdft, e_gdff, e_ift, e_iff, e_not, e_ln, e_lnT, e_cp, e_cvi, e_ex20, e_ex21, e_ex30, e_ex31, e_ex32, e_add, e_sub, e_mul, e_quo, e_rem, e_and, e_or, e_xor, e_shl, e_shr, e_eql, e_neq, e_lss, e_leq, e_gtr, e_geq, e_beq, e_bne, e_peq1, e_peq2, e_pne1, e_pne2, e_zeq1, e_zeq2, e_zne1, e_zne2, e_feq1, e_fne1, e_feq2, e_fne2, e_seq, e_sne, e_ta1, e_ta2, Nat.zero_add, Nat.add_zero, Bool.not_true, Bool.not_false]
    refine ld1_r r5 rfl ?_
    refine h2.ma.wbs.ln ?_
    refine fit_ok (hd.kp' h2.ma.kp) (by omega) (by omega) fun w3 v3 ys b3 by3 l3 hk3 => ?_
    try simp only [e_fd, e_nck, e_pkt, e_pkf, e_gdtt, e_gdtf, e_gdft, e_gdff, e_ift, e_iff, e_not, e_ln, e_lnT, e_cp, e_cvi, e_ex20, e_ex21, e_ex30, e_ex31, e_ex32, e_add, e_sub, e_mul, e_quo, e_rem, e_and, e_or, e_xor, e_shl, e_shr, e_eql, e_neq, e_lss, e_leq, e_gtr, e_geq, e_beq, e_bne, e_peq1, e_peq2, e_pne1, e_pne2, e_zeq1, e_zeq2, e_zne1, e_zne2, e_feq1, e_fne1, e_feq2, e_fne2, e_seq, e_sne, e_ta1, e_ta2, Nat.zero_add, Nat.add_zero, Bool.not_true, Bool.not_false]
    refine ld1_r (hk3.row' r5) rfl ?_
    try simp only [e_fd, e_nck, e_pkt, e_pkf, e_gdtt, e_gdtf, e_gdft, e_gdff, e_ift, e_iff, e_not, e_ln, e_lnT, e_cp, e_cvi, e_ex20, e_ex21, e_ex30, e_ex31, e_ex32, e_add, e_sub, e_mul, e_quo, e_rem, e_and, e_or, e_xor, e_shl, e_shr, e_eql, e_neq, e_lss, e_leq, e_gtr, e_geq, e_beq, e_bne, e_peq1, e_peq2, e_pne1, e_pne2, e_zeq1, e_zeq2, e_zne1, e_zne2, e_feq1, e_fne1, e_feq2, e_fne2, e_seq, e_sne, e_ta1, e_ta2, Nat.zero_add, Nat.add_zero, Bool.not_true, Bool.not_false]
    refine ld1_r (hk3.row' r5) rfl ?_
    refine digits_ok (n := 8) hwf.val (by decide) fun w4 b4 r4 hb4 hk4 => ?_
    have k4 := hk3.trans hk4
    have d4 : Bs w4 (sv b4 0 8 8) (digE ops[j].little ops[j].val 8) := by
      have := (mv_row r4 digE_by (by rw [digE_len]; decide)).bs
      rw [digE_len] at this
      exact this
    refine (h2.ma.kp' k4).wbs.ln ?_
    refine fit_ok d4 (by omega) (by rw [digE_len]; decide) fun w5 v5 zs b5 by5 l5 hk5 => ?_
    have k5 := k4.trans hk5
    refine sumHolds_ok (h2.ma.kp' k5).wbs (b3.kp' (hk4.trans hk5)) b5 rfl l3 l5 (by omega) fun w6 hk6 => ?_
    simp only [Bool.not_true, e_fd, e_nck, e_pkt, e_pkf, e_gdtt, e_gdtf, e_gdft, e_gdff, e_ift, e_iff, e_not, e_ln, e_lnT, e_cp, e_cvi, e_ex20, e_ex21, e_ex30, e_ex31, e_ex32, e_add, e_sub, e_mul, e_quo, e_rem, e_and, e_or, e_xor, e_shl, e_shr, e_eql, e_neq, e_lss, e_leq, e_gtr, e_geq, e_beq, e_bne, e_peq1, e_peq2, e_pne1, e_pne2, e_zeq1, e_zeq2, e_zne1, e_zne2, e_feq1, e_fne1, e_feq2, e_fne2, e_seq, e_sne, e_ta1, e_ta2, Nat.zero_add, Nat.add_zero, Bool.not_true, Bool.not_false]
    rw [wrap64_id (by omega) (by omega)]
    exact ⟨n - 1, by omega, j + 1, wob2, wv2, rv2, s2, by omega, by simp, h2.kp' (k5.trans hk6)⟩
  · have hj' : ¬ ((j : Nat) : Int) < ((ops.length : Nat) : Int) := by omega
    simp only [hj', decide_false, e_fd, e_nck, e_pkt, e_pkf, e_gdtt, e_gdtf, e_gdft, e_gdff, e_ift, e_iff, e_not, e_ln, e_lnT, e_cp, e_cvi, e_ex20, e_ex21, e_ex30, e_ex31, e_ex32, e_add, e_sub, e_mul, e_quo, e_rem, e_and, e_or, e_xor, e_shl, e_shr, e_eql, e_neq, e_lss, e_leq, e_gtr, e_geq, e_beq, e_bne, e_peq1, e_peq2, e_pne1, e_pne2, e_zeq1, e_zeq2, e_zne1, e_zne2, e_feq1, e_fne1, e_feq2, e_fne2, e_seq, e_sne, e_ta1, e_ta2, Nat.zero_add, Nat.add_zero, Bool.not_true, Bool.not_false]
    unfold s6_p1
    exact hK w1 h1.ma.kp
theorem law6_ok {ops : List Op} (hs : Scr W v ops) : cl Try.prog 6 #[v] (fun r w' => r = .bool true ∧ Below W.heap.size W w') W := by
  apply c6
  unfold s6_p4
  refine small_ok hs (Below.refl _ _) fun r hr => ?_
  cases r with
  | false =>
    simp only [Bool.not_false, e_fd, e_nck, e_pkt, e_pkf, e_gdtt, e_gdtf, e_gdft, e_gdff, e_ift, e_iff, e_not, e_ln, e_lnT, e_cp, e_cvi, e_ex20, e_ex21, e_ex30, e_ex31, e_ex32, e_add, e_sub, e_mul, e_quo, e_rem, e_and, e_or, e_xor, e_shl, e_shr, e_eql, e_neq, e_lss, e_leq, e_gtr, e_geq, e_beq, e_bne, e_peq1, e_peq2, e_pne1, e_pne2, e_zeq1, e_zeq2, e_zne1, e_zne2, e_feq1, e_fne1, e_feq2, e_fne2, e_seq, e_sne, e_ta1, e_ta2, Nat.zero_add, Nat.add_zero, Bool.not_true, Bool.not_false]
    exact ⟨trivial, Below.refl _ _⟩
  | true =>
    obtain ⟨hl, hall⟩ := hr rfl
    simp only [Bool.not_true, e_fd, e_nck, e_pkt, e_pkf, e_gdtt, e_gdtf, e_gdft, e_gdff, e_ift, e_iff, e_not, e_ln, e_lnT, e_cp, e_cvi, e_ex20, e_ex21, e_ex30, e_ex31, e_ex32, e_add, e_sub, e_mul, e_quo, e_rem, e_and, e_or, e_xor, e_shl, e_shr, e_eql, e_neq, e_lss, e_leq, e_gtr, e_geq, e_beq, e_bne, e_peq1, e_peq2, e_pne1, e_pne2, e_zeq1, e_zeq2, e_zne1, e_zne2, e_feq1, e_fne1, e_feq2, e_fne2, e_seq, e_sne, e_ta1, e_ta2, Nat.zero_add, Nat.add_zero, Bool.not_true, Bool.not_false]
    refine nw_r fun w1 r1 hk1 hz1 => ?_
    refine hs.ln ?_
    exact law6_loop hs hl hall (LZ.start hk1 r1 (Nat.le_refl _)) fun w' hk => ⟨rfl, hk.below'⟩
theorem law6_walk {ops : List Op} (hs : Scr W v ops) : Calls Try.prog 6 #[v] W fun e w' => e = .returned (.bool true) ∧ Below W.heap.size W w' :=
  Calls.mono (law6_ok hs) fun e w' ⟨r, he, hr, hb⟩ => ⟨by rw [he, hr], hb⟩
end
end Go.Proofs.Qxb6500898a
