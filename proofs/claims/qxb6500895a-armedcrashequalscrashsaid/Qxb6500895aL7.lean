import Derived.Test.Qxb6500895aD15
namespace Go.Proofs.Qxb6500895a
open Go.Sh Go.RowKit
set_option linter.unusedVariables false
set_option linter.unusedSimpArgs false

/-- the state of the law's loop -/
structure St7 (W w : World) (d1 d2 t6 : Nat) (m1 m2 : Mem) (a p : DS) (left : Int) (keep : List Int) (torn at_ : Int) (kv : Value) : Prop where
  two : Two W w d1 d2 m1 m2 a p
  pair : Pair a p left keep torn at_
  row : Row w t6 32 [kv, I torn, I at_]
  kvp : VsP (fun b => W.heap.size ≤ b) I w kv keep
  far : W.heap.size ≤ t6
  l1 : left ≤ 9223372036854775807

section
variable {W w : World} {d1 d2 t6 : Nat} {m1 m2 : Mem} {a p : DS} {left torn at_ : Int} {keep : List Int} {kv v : Value} {xs : List Op}

def J7 (W : World) (d1 d2 t6 : Nat) (v : Value) (xs : List Op) (n : Nat) (l : List Value) (w' : World) : Prop :=
  ∃ (j : Nat) (m1 m2 : Mem) (a p : DS) (left : Int) (keep : List Int) (torn at_ : Int) (kv : Value), j ≤ xs.length ∧ n = xs.length - j ∧ l = [P d1 0, P d2 0, I left, P t6 0, v, I xs.length, I j] ∧ St7 W w' d1 d2 t6 m1 m2 a p left keep torn at_ kv
abbrev K7 (W : World) : Value → World → Prop := fun r w' => r = .bool true ∧ Below W.heap.size W w'
abbrev B7 (W : World) (d1 d2 t6 : Nat) (v : Value) (xs : List Op) (j : Nat) : List Value → World → Prop := fun l' w' => ∃ n', n' < xs.length - j ∧ J7 W d1 d2 t6 v xs n' l' w'

theorem St7.kp' {w' : World} (h : St7 W w d1 d2 t6 m1 m2 a p left keep torn at_ kv) (hk : Kp (fun _ => False) w w') : St7 W w' d1 d2 t6 m1 m2 a p left keep torn at_ kv :=
  ⟨h.two.kp' hk, h.pair, hk.row' h.row, h.kvp.mv hk (fun _ _ q => q.elim) (fun _ q => .inl q), h.far, h.l1⟩

theorem fin7 {j : Nat} (hj : j < xs.length) (hl : xs.length ≤ 65536) (h : St7 W w d1 d2 t6 m1 m2 a p left keep torn at_ kv) : s7_p3 (K7 W) (B7 W d1 d2 t6 v xs j) (P d1 0) (P d2 0) (I left) (P t6 0) v (I xs.length) (I j) w := by
  unfold s7_p3
  refine h.two.looks fun w1 v1 v2 h1 hk1 hv1 hv2 => ?_
  refine sameContent_ok hv1 hv2 h.pair.off h.pair.fr h.pair.flu fun w2 hk2 => ?_
  simp only [Bool.not_true, e_fd, e_nck, e_pkt, e_pkf, e_gdtt, e_gdtf, e_gdft, e_gdff, e_ift, e_iff, e_not, e_ln, e_lnT, e_cp, e_cvi, e_ex20, e_ex21, e_ex30, e_ex31, e_ex32, e_add, e_sub, e_mul, e_quo, e_rem, e_and, e_or, e_xor, e_shl, e_shr, e_eql, e_neq, e_lss, e_leq, e_gtr, e_geq, e_beq, e_bne, e_peq1, e_peq2, e_pne1, e_pne2, e_zeq1, e_zeq2, e_zne1, e_zne2, e_feq1, e_fne1, e_feq2, e_fne2, e_seq, e_sne, e_ta1, e_ta2, Nat.zero_add, Nat.add_zero, Bool.not_true, Bool.not_false]
  unfold s7_p2
  simp only [e_fd, e_nck, e_pkt, e_pkf, e_gdtt, e_gdtf, e_gdft, e_gdff, e_ift, e_iff, e_not, e_ln, e_lnT, e_cp, e_cvi, e_ex20, e_ex21, e_ex30, e_ex31, e_ex32, e_add, e_sub, e_mul, e_quo, e_rem, e_and, e_or, e_xor, e_shl, e_shr, e_eql, e_neq, e_lss, e_leq, e_gtr, e_geq, e_beq, e_bne, e_peq1, e_peq2, e_pne1, e_pne2, e_zeq1, e_zeq2, e_zne1, e_zne2, e_feq1, e_fne1, e_feq2, e_fne2, e_seq, e_sne, e_ta1, e_ta2, Nat.zero_add, Nat.add_zero, Bool.not_true, Bool.not_false]
  rw [wrap64_id (by omega) (by omega)]
  exact ⟨xs.length - (j + 1), by omega, j + 1, m1, m2, a, p, left, keep, torn, at_, kv, by omega, rfl, by simp, (h.kp' hk1).kp' hk2⟩

/-- the plain device is crashed -/
theorem crash7 {op : Op} {j : Nat} {R : World → Prop} {p1 : DS} (h2 : Two W w d1 d2 m1 m2 a p1) (row : Row w t6 32 [kv, I torn, I at_]) (kvp : VsP (fun b => W.heap.size ≤ b) I w kv keep)
    (hR : ∀ w' m2', Two W w' d1 d2 m1 m2' a (crS p1 keep torn at_).2 → Row w' t6 32 [kv, I torn, I at_] → VsP (fun b => W.heap.size ≤ b) I w' kv keep → R w') :
    ldn 3 (P t6 0) (fun t81 w => cl Try.prog 30 #[P d2 0, t81] (fun t82 w => R w) w) w := by
  refine ldn_r row (show 0 + 3 ≤ 3 by decide) ?_
  refine crash_ok (kv := kv) (keep := keep) (torn := torn) (a := at_) h2.b.dk kvp.1 (fun b o c h0 e q => kvp.2 b o c h0 e (by rw [q]; exact h2.b.far _ (.inr (.inl rfl)))) fun w1 m' r hd st he => ?_
  exact hR w1 m' (h2.stp2 (h2.b.stp hd st) st) (st.kp.row row (h2.b.dk.ntag row (by decide))) (kvp.mv st.kp (fun b _ q => h2.b.far b q) (fun b q => .inl q))

theorem law7_body {j ob : Nat} {op : Op} {dv kvo bv : Value} {w2 : World} {m1' : Mem} (hj : j < xs.length) (hl : xs.length ≤ 65536) (hp : Pair a p left keep torn at_) (two : Two W w2 d1 d2 m1' m2 (playS a op).2.2 p)
    (row : Row w2 t6 32 [kv, I torn, I at_]) (kvp : VsP (fun b => W.heap.size ≤ b) I w2 kv keep) (far : W.heap.size ≤ t6) (l1 : left ≤ 9223372036854775807)
    (r8 : Row w2 ob 34 (opc dv kvo op)) (hov : OpV w2 W.heap.size (.agg (opc dv kvo op).toArray) op) (hbv : Vs U8 w2 bv (playS a op).2.1) (hbvn : ∀ b o c, 0 < (playS a op).2.1.length → bv = .slice (some ⟨b, o, none⟩) (playS a op).2.1.length c → ¬ Own d2 m2 b) (skv : scal kvo = true) :
    s7_p9 (K7 W) (B7 W d1 d2 t6 v xs j) (P d1 0) (P d2 0) (I left) (P t6 0) (P ob 0) (I (playS a op).1) bv v (I xs.length) (I j) (I op.kind) w2 := by
  have l0 := hp.l0
  have hovf : op.keep.length ≤ 65536 ∧ op.after ≤ 9223372036854775807 ∧ ∀ b o c, 0 < op.keep.length → kvo = .slice (some ⟨b, o, none⟩) op.keep.length c → b < W.heap.size := by
    obtain ⟨dv', kv', e1, _, _, _, h5, h6, _, hb8⟩ := hov
    have e2 : kv' = kvo := by simp [opc] at e1; exact e1.2.symm
    subst e2
    exact ⟨h5, h6, hb8⟩
  have hkvo : Vs I w2 kvo op.keep := by
    obtain ⟨dv', kv', e1, _, _, h4, _⟩ := hov
    have e2 : kv' = kvo := by simp [opc] at e1; exact e1.2.symm
    subst e2
    exact h4
  unfold s7_p9
  simp only [e_fd, e_nck, e_pkt, e_pkf, e_gdtt, e_gdtf, e_gdft, e_gdff, e_ift, e_iff, e_not, e_ln, e_lnT, e_cp, e_cvi, e_ex20, e_ex21, e_ex30, e_ex31, e_ex32, e_add, e_sub, e_mul, e_quo, e_rem, e_and, e_or, e_xor, e_shl, e_shr, e_eql, e_neq, e_lss, e_leq, e_gtr, e_geq, e_beq, e_bne, e_peq1, e_peq2, e_pne1, e_pne2, e_zeq1, e_zeq2, e_zne1, e_zne2, e_feq1, e_fne1, e_feq2, e_fne2, e_seq, e_sne, e_ta1, e_ta2, Nat.zero_add, Nat.add_zero, Bool.not_true, Bool.not_false]
  unfold s7_p8
  by_cases k5 : op.kind = 5
  · have e : (op.kind == 5) = true := by simpa using k5
    simp only [e, e_fd, e_nck, e_pkt, e_pkf, e_gdtt, e_gdtf, e_gdft, e_gdff, e_ift, e_iff, e_not, e_ln, e_lnT, e_cp, e_cvi, e_ex20, e_ex21, e_ex30, e_ex31, e_ex32, e_add, e_sub, e_mul, e_quo, e_rem, e_and, e_or, e_xor, e_shl, e_shr, e_eql, e_neq, e_lss, e_leq, e_gtr, e_geq, e_beq, e_bne, e_peq1, e_peq2, e_pne1, e_pne2, e_zeq1, e_zeq2, e_zne1, e_zne2, e_feq1, e_fne1, e_feq2, e_fne2, e_seq, e_sne, e_ta1, e_ta2, Nat.zero_add, Nat.add_zero, Bool.not_true, Bool.not_false]
    unfold s7_p6
    simp only [e_fd, e_nck, e_pkt, e_pkf, e_gdtt, e_gdtf, e_gdft, e_gdff, e_ift, e_iff, e_not, e_ln, e_lnT, e_cp, e_cvi, e_ex20, e_ex21, e_ex30, e_ex31, e_ex32, e_add, e_sub, e_mul, e_quo, e_rem, e_and, e_or, e_xor, e_shl, e_shr, e_eql, e_neq, e_lss, e_leq, e_gtr, e_geq, e_beq, e_bne, e_peq1, e_peq2, e_pne1, e_pne2, e_zeq1, e_zeq2, e_zne1, e_zne2, e_feq1, e_fne1, e_feq2, e_fne2, e_seq, e_sne, e_ta1, e_ta2, Nat.zero_add, Nat.add_zero, Bool.not_true, Bool.not_false]
    unfold s7_p5
    have hq := hp.arm k5
    by_cases hc : (playS a op).1 = 0
    · have e : ((playS a op).1 == 0) = true := by simpa using hc
      simp only [e, e_fd, e_nck, e_pkt, e_pkf, e_gdtt, e_gdtf, e_gdft, e_gdff, e_ift, e_iff, e_not, e_ln, e_lnT, e_cp, e_cvi, e_ex20, e_ex21, e_ex30, e_ex31, e_ex32, e_add, e_sub, e_mul, e_quo, e_rem, e_and, e_or, e_xor, e_shl, e_shr, e_eql, e_neq, e_lss, e_leq, e_gtr, e_geq, e_beq, e_bne, e_peq1, e_peq2, e_pne1, e_pne2, e_zeq1, e_zeq2, e_zne1, e_zne2, e_feq1, e_fne1, e_feq2, e_fne2, e_seq, e_sne, e_ta1, e_ta2, Nat.zero_add, Nat.add_zero, Bool.not_true, Bool.not_false]
      unfold s7_p4 s7_p4_d
      simp only [e_fd, e_nck, e_pkt, e_pkf, e_gdtt, e_gdtf, e_gdft, e_gdff, e_ift, e_iff, e_not, e_ln, e_lnT, e_cp, e_cvi, e_ex20, e_ex21, e_ex30, e_ex31, e_ex32, e_add, e_sub, e_mul, e_quo, e_rem, e_and, e_or, e_xor, e_shl, e_shr, e_eql, e_neq, e_lss, e_leq, e_gtr, e_geq, e_beq, e_bne, e_peq1, e_peq2, e_pne1, e_pne2, e_zeq1, e_zeq2, e_zne1, e_zne2, e_feq1, e_fne1, e_feq2, e_fne2, e_seq, e_sne, e_ta1, e_ta2, Nat.zero_add, Nat.add_zero, Bool.not_true, Bool.not_false]
      refine ld1_r r8.drw (v := I op.after) rfl ?_
      refine ldn_r r8.drw (show 5 + 3 ≤ 8 by decide) ?_
      refine stn_r row.drw rfl (show 0 + 3 ≤ 3 by decide) (show ([kvo, I op.torn, I op.at_] : List Value).all scal = true by simp only [List.all_cons, skv]; rfl) fun w3 r3 hk3 hz3 => ?_
      have n1 : ¬ Own d1 m1' t6 := two.a.dk.ntag row (by decide)
      have n2 : ¬ Own d2 m2 t6 := two.b.dk.ntag row (by decide)
      have hk23 : Kp (fun b => b = t6) w2 w3 := kp_drw.trans hk3
      refine fin7 hj hl ⟨two.kp hk23 (fun b (q : b = t6) => by subst q; exact ⟨n1, n2, far⟩), hq.1 hc, r3, ⟨?_, fun b o c h0 e q => by have := hovf.2.2 b o c h0 e; omega⟩, far, hovf.2.1⟩
      exact hkvo.kp hk23 (fun b o c h0 e (q : b = t6) => by have := hovf.2.2 b o c h0 e; omega)
    · have e : ((playS a op).1 == 0) = false := by simpa using hc
      simp only [e, e_fd, e_nck, e_pkt, e_pkf, e_gdtt, e_gdtf, e_gdft, e_gdff, e_ift, e_iff, e_not, e_ln, e_lnT, e_cp, e_cvi, e_ex20, e_ex21, e_ex30, e_ex31, e_ex32, e_add, e_sub, e_mul, e_quo, e_rem, e_and, e_or, e_xor, e_shl, e_shr, e_eql, e_neq, e_lss, e_leq, e_gtr, e_geq, e_beq, e_bne, e_peq1, e_peq2, e_pne1, e_pne2, e_zeq1, e_zeq2, e_zne1, e_zne2, e_feq1, e_fne1, e_feq2, e_fne2, e_seq, e_sne, e_ta1, e_ta2, Nat.zero_add, Nat.add_zero, Bool.not_true, Bool.not_false]
      exact fin7 hj hl ⟨two, hq.2 hc, row, kvp, far, l1⟩
  · have e : (op.kind == 5) = false := by simpa using k5
    simp only [e, e_fd, e_nck, e_pkt, e_pkf, e_gdtt, e_gdtf, e_gdft, e_gdff, e_ift, e_iff, e_not, e_ln, e_lnT, e_cp, e_cvi, e_ex20, e_ex21, e_ex30, e_ex31, e_ex32, e_add, e_sub, e_mul, e_quo, e_rem, e_and, e_or, e_xor, e_shl, e_shr, e_eql, e_neq, e_lss, e_leq, e_gtr, e_geq, e_beq, e_bne, e_peq1, e_peq2, e_pne1, e_pne2, e_zeq1, e_zeq2, e_zne1, e_zne2, e_feq1, e_fne1, e_feq2, e_fne2, e_seq, e_sne, e_ta1, e_ta2, Nat.zero_add, Nat.add_zero, Bool.not_true, Bool.not_false]
    unfold s7_p7
    simp only [e_fd, e_nck, e_pkt, e_pkf, e_gdtt, e_gdtf, e_gdft, e_gdff, e_ift, e_iff, e_not, e_ln, e_lnT, e_cp, e_cvi, e_ex20, e_ex21, e_ex30, e_ex31, e_ex32, e_add, e_sub, e_mul, e_quo, e_rem, e_and, e_or, e_xor, e_shl, e_shr, e_eql, e_neq, e_lss, e_leq, e_gtr, e_geq, e_beq, e_bne, e_peq1, e_peq2, e_pne1, e_pne2, e_zeq1, e_zeq2, e_zne1, e_zne2, e_feq1, e_fne1, e_feq2, e_fne2, e_seq, e_sne, e_ta1, e_ta2, Nat.zero_add, Nat.add_zero, Bool.not_true, Bool.not_false]
    by_cases k6 : op.kind = 6
    · have e : (op.kind == 6) = true := by simpa using k6
      simp only [e, e_fd, e_nck, e_pkt, e_pkf, e_gdtt, e_gdtf, e_gdft, e_gdff, e_ift, e_iff, e_not, e_ln, e_lnT, e_cp, e_cvi, e_ex20, e_ex21, e_ex30, e_ex31, e_ex32, e_add, e_sub, e_mul, e_quo, e_rem, e_and, e_or, e_xor, e_shl, e_shr, e_eql, e_neq, e_lss, e_leq, e_gtr, e_geq, e_beq, e_bne, e_peq1, e_peq2, e_pne1, e_pne2, e_zeq1, e_zeq2, e_zne1, e_zne2, e_feq1, e_fne1, e_feq2, e_fne2, e_seq, e_sne, e_ta1, e_ta2, Nat.zero_add, Nat.add_zero, Bool.not_true, Bool.not_false]
      have hq := hp.disarm k6
      by_cases hc : (playS a op).1 = 0
      · have e : ((playS a op).1 == 0) = true := by simpa using hc
        simp only [e, e_fd, e_nck, e_pkt, e_pkf, e_gdtt, e_gdtf, e_gdft, e_gdff, e_ift, e_iff, e_not, e_ln, e_lnT, e_cp, e_cvi, e_ex20, e_ex21, e_ex30, e_ex31, e_ex32, e_add, e_sub, e_mul, e_quo, e_rem, e_and, e_or, e_xor, e_shl, e_shr, e_eql, e_neq, e_lss, e_leq, e_gtr, e_geq, e_beq, e_bne, e_peq1, e_peq2, e_pne1, e_pne2, e_zeq1, e_zeq2, e_zne1, e_zne2, e_feq1, e_fne1, e_feq2, e_fne2, e_seq, e_sne, e_ta1, e_ta2, Nat.zero_add, Nat.add_zero, Bool.not_true, Bool.not_false]
        exact fin7 hj hl ⟨two, hq.1 hc, row, kvp, far, by omega⟩
      · have e : ((playS a op).1 == 0) = false := by simpa using hc
        simp only [e, e_fd, e_nck, e_pkt, e_pkf, e_gdtt, e_gdtf, e_gdft, e_gdff, e_ift, e_iff, e_not, e_ln, e_lnT, e_cp, e_cvi, e_ex20, e_ex21, e_ex30, e_ex31, e_ex32, e_add, e_sub, e_mul, e_quo, e_rem, e_and, e_or, e_xor, e_shl, e_shr, e_eql, e_neq, e_lss, e_leq, e_gtr, e_geq, e_beq, e_bne, e_peq1, e_peq2, e_pne1, e_pne2, e_zeq1, e_zeq2, e_zne1, e_zne2, e_feq1, e_fne1, e_feq2, e_fne2, e_seq, e_sne, e_ta1, e_ta2, Nat.zero_add, Nat.add_zero, Bool.not_true, Bool.not_false]
        exact fin7 hj hl ⟨two, hq.2 hc, row, kvp, far, l1⟩
    · have e : (op.kind == 6) = false := by simpa using k6
      simp only [e, e_fd, e_nck, e_pkt, e_pkf, e_gdtt, e_gdtf, e_gdft, e_gdff, e_ift, e_iff, e_not, e_ln, e_lnT, e_cp, e_cvi, e_ex20, e_ex21, e_ex30, e_ex31, e_ex32, e_add, e_sub, e_mul, e_quo, e_rem, e_and, e_or, e_xor, e_shl, e_shr, e_eql, e_neq, e_lss, e_leq, e_gtr, e_geq, e_beq, e_bne, e_peq1, e_peq2, e_pne1, e_pne2, e_zeq1, e_zeq2, e_zne1, e_zne2, e_feq1, e_fne1, e_feq2, e_fne2, e_seq, e_sne, e_ta1, e_ta2, Nat.zero_add, Nat.add_zero, Bool.not_true, Bool.not_false]
      by_cases k2 : op.kind = 2
      · have e : (op.kind == 2) = true := by simpa using k2
        simp only [e, e_fd, e_nck, e_pkt, e_pkf, e_gdtt, e_gdtf, e_gdft, e_gdff, e_ift, e_iff, e_not, e_ln, e_lnT, e_cp, e_cvi, e_ex20, e_ex21, e_ex30, e_ex31, e_ex32, e_add, e_sub, e_mul, e_quo, e_rem, e_and, e_or, e_xor, e_shl, e_shr, e_eql, e_neq, e_lss, e_leq, e_gtr, e_geq, e_beq, e_bne, e_peq1, e_peq2, e_pne1, e_pne2, e_zeq1, e_zeq2, e_zne1, e_zne2, e_feq1, e_fne1, e_feq2, e_fne2, e_seq, e_sne, e_ta1, e_ta2, Nat.zero_add, Nat.add_zero, Bool.not_true, Bool.not_false]
        obtain ⟨q1, q2⟩ := hp.flush (op := op) k2
        have plain : ¬ (left = 1 ∧ p.off = false) → ∀ w3, Kp (fun _ => False) w2 w3 → cl Try.prog 32 #[P d2 0] (fun t84 w => cl Try.prog 31 #[t84] (fun t85 w => boI .neq t85 (I (playS a op).1) (fun t87 w => ifb t87 (K7 W (.bool false) w) (boI .eql (I (playS a op).1) (.int .i64 0) (fun t89 w => gd t89 true (fun K w => K (I left) w) (fun t91 w => gd t89 true (boI .gtr t91 (.int .i64 0)) (fun t92 w => pk t89 t92 (.bool false) (fun t93 w => ifb t93 (boI .sub (I left) (.int .i64 1) (fun t95 w => s7_p3 (K7 W) (B7 W d1 d2 t6 v xs j) (P d1 0) (P d2 0) t95 (P t6 0) v (I xs.length) (I j) w) w) (s7_p3 (K7 W) (B7 W d1 d2 t6 v xs j) (P d1 0) (P d2 0) (I left) (P t6 0) v (I xs.length) (I j) w)) w) w) w) w)) w) w) w3 := by
          intro hn w3 hk3
          obtain ⟨c1, c2, c3⟩ := q2 hn
          have two3 := two.kp' hk3
          have row3 := hk3.row' row
          have kvp3 := kvp.mv (Q' := fun b => W.heap.size ≤ b) hk3 (fun _ _ q => q.elim) (fun _ q => .inl q)
          refine flush_ok two3.b.dk fun w4 m4 r hd st he => ?_
          refine codeOf_ok he ?_
          have e : ((flS p).1 != (playS a op).1) = false := by rw [c1]; simp
          simp only [e, e_fd, e_nck, e_pkt, e_pkf, e_gdtt, e_gdtf, e_gdft, e_gdff, e_ift, e_iff, e_not, e_ln, e_lnT, e_cp, e_cvi, e_ex20, e_ex21, e_ex30, e_ex31, e_ex32, e_add, e_sub, e_mul, e_quo, e_rem, e_and, e_or, e_xor, e_shl, e_shr, e_eql, e_neq, e_lss, e_leq, e_gtr, e_geq, e_beq, e_bne, e_peq1, e_peq2, e_pne1, e_pne2, e_zeq1, e_zeq2, e_zne1, e_zne2, e_feq1, e_fne1, e_feq2, e_fne2, e_seq, e_sne, e_ta1, e_ta2, Nat.zero_add, Nat.add_zero, Bool.not_true, Bool.not_false]
          have two4 := two3.stp2 (two3.b.stp hd st) st
          have row4 := st.kp.row row3 (two3.b.dk.ntag row3 (by decide))
          have kvp4 := kvp3.mv (Q' := fun b => W.heap.size ≤ b) st.kp (fun b _ q => two3.b.far b q) (fun b q => .inl q)
          by_cases hc : (playS a op).1 = 0
          · have e : ((playS a op).1 == 0) = true := by simpa using hc
            simp only [e, e_fd, e_nck, e_pkt, e_pkf, e_gdtt, e_gdtf, e_gdft, e_gdff, e_ift, e_iff, e_not, e_ln, e_lnT, e_cp, e_cvi, e_ex20, e_ex21, e_ex30, e_ex31, e_ex32, e_add, e_sub, e_mul, e_quo, e_rem, e_and, e_or, e_xor, e_shl, e_shr, e_eql, e_neq, e_lss, e_leq, e_gtr, e_geq, e_beq, e_bne, e_peq1, e_peq2, e_pne1, e_pne2, e_zeq1, e_zeq2, e_zne1, e_zne2, e_feq1, e_fne1, e_feq2, e_fne2, e_seq, e_sne, e_ta1, e_ta2, Nat.zero_add, Nat.add_zero, Bool.not_true, Bool.not_false]
            by_cases hlp : 0 < left
            · simp only [hlp, decide_true, e_fd, e_nck, e_pkt, e_pkf, e_gdtt, e_gdtf, e_gdft, e_gdff, e_ift, e_iff, e_not, e_ln, e_lnT, e_cp, e_cvi, e_ex20, e_ex21, e_ex30, e_ex31, e_ex32, e_add, e_sub, e_mul, e_quo, e_rem, e_and, e_or, e_xor, e_shl, e_shr, e_eql, e_neq, e_lss, e_leq, e_gtr, e_geq, e_beq, e_bne, e_peq1, e_peq2, e_pne1, e_pne2, e_zeq1, e_zeq2, e_zne1, e_zne2, e_feq1, e_fne1, e_feq2, e_fne2, e_seq, e_sne, e_ta1, e_ta2, Nat.zero_add, Nat.add_zero, Bool.not_true, Bool.not_false]
              rw [wrap64_id (by omega) (by omega)]
              exact fin7 hj hl ⟨two4, c2 ⟨hc, hlp⟩, row4, kvp4, far, by omega⟩
            · simp only [hlp, decide_false, e_fd, e_nck, e_pkt, e_pkf, e_gdtt, e_gdtf, e_gdft, e_gdff, e_ift, e_iff, e_not, e_ln, e_lnT, e_cp, e_cvi, e_ex20, e_ex21, e_ex30, e_ex31, e_ex32, e_add, e_sub, e_mul, e_quo, e_rem, e_and, e_or, e_xor, e_shl, e_shr, e_eql, e_neq, e_lss, e_leq, e_gtr, e_geq, e_beq, e_bne, e_peq1, e_peq2, e_pne1, e_pne2, e_zeq1, e_zeq2, e_zne1, e_zne2, e_feq1, e_fne1, e_feq2, e_fne2, e_seq, e_sne, e_ta1, e_ta2, Nat.zero_add, Nat.add_zero, Bool.not_true, Bool.not_false]
              exact fin7 hj hl ⟨two4, c3 (fun q => hlp q.2), row4, kvp4, far, l1⟩
          · have e : ((playS a op).1 == 0) = false := by simpa using hc
            simp only [e, e_fd, e_nck, e_pkt, e_pkf, e_gdtt, e_gdtf, e_gdft, e_gdff, e_ift, e_iff, e_not, e_ln, e_lnT, e_cp, e_cvi, e_ex20, e_ex21, e_ex30, e_ex31, e_ex32, e_add, e_sub, e_mul, e_quo, e_rem, e_and, e_or, e_xor, e_shl, e_shr, e_eql, e_neq, e_lss, e_leq, e_gtr, e_geq, e_beq, e_bne, e_peq1, e_peq2, e_pne1, e_pne2, e_zeq1, e_zeq2, e_zne1, e_zne2, e_feq1, e_fne1, e_feq2, e_fne2, e_seq, e_sne, e_ta1, e_ta2, Nat.zero_add, Nat.add_zero, Bool.not_true, Bool.not_false]
            exact fin7 hj hl ⟨two4, c3 (fun q => hc q.1), row4, kvp4, far, l1⟩
        simp only [e_fd, e_nck, e_pkt, e_pkf, e_gdtt, e_gdtf, e_gdft, e_gdff, e_ift, e_iff, e_not, e_ln, e_lnT, e_cp, e_cvi, e_ex20, e_ex21, e_ex30, e_ex31, e_ex32, e_add, e_sub, e_mul, e_quo, e_rem, e_and, e_or, e_xor, e_shl, e_shr, e_eql, e_neq, e_lss, e_leq, e_gtr, e_geq, e_beq, e_bne, e_peq1, e_peq2, e_pne1, e_pne2, e_zeq1, e_zeq2, e_zne1, e_zne2, e_feq1, e_fne1, e_feq2, e_fne2, e_seq, e_sne, e_ta1, e_ta2, Nat.zero_add, Nat.add_zero, Bool.not_true, Bool.not_false] at plain
        by_cases hl1 : left = 1
        · have e : (left == 1) = true := by simpa using hl1
          simp only [e, e_fd, e_nck, e_pkt, e_pkf, e_gdtt, e_gdtf, e_gdft, e_gdff, e_ift, e_iff, e_not, e_ln, e_lnT, e_cp, e_cvi, e_ex20, e_ex21, e_ex30, e_ex31, e_ex32, e_add, e_sub, e_mul, e_quo, e_rem, e_and, e_or, e_xor, e_shl, e_shr, e_eql, e_neq, e_lss, e_leq, e_gtr, e_geq, e_beq, e_bne, e_peq1, e_peq2, e_pne1, e_pne2, e_zeq1, e_zeq2, e_zne1, e_zne2, e_feq1, e_fne1, e_feq2, e_fne2, e_seq, e_sne, e_ta1, e_ta2, Nat.zero_add, Nat.add_zero, Bool.not_true, Bool.not_false]
          refine offline_ok two.b.dk ?_
          cases ho : p.off with
          | true =>
            simp only [Bool.not_true, e_fd, e_nck, e_pkt, e_pkf, e_gdtt, e_gdtf, e_gdft, e_gdff, e_ift, e_iff, e_not, e_ln, e_lnT, e_cp, e_cvi, e_ex20, e_ex21, e_ex30, e_ex31, e_ex32, e_add, e_sub, e_mul, e_quo, e_rem, e_and, e_or, e_xor, e_shl, e_shr, e_eql, e_neq, e_lss, e_leq, e_gtr, e_geq, e_beq, e_bne, e_peq1, e_peq2, e_pne1, e_pne2, e_zeq1, e_zeq2, e_zne1, e_zne2, e_feq1, e_fne1, e_feq2, e_fne2, e_seq, e_sne, e_ta1, e_ta2, Nat.zero_add, Nat.add_zero, Bool.not_true, Bool.not_false]
            exact plain (fun q => by rw [q.2] at ho; cases ho) w2 (Kp.refl _ _)
          | false =>
            simp only [Bool.not_false, e_fd, e_nck, e_pkt, e_pkf, e_gdtt, e_gdtf, e_gdft, e_gdff, e_ift, e_iff, e_not, e_ln, e_lnT, e_cp, e_cvi, e_ex20, e_ex21, e_ex30, e_ex31, e_ex32, e_add, e_sub, e_mul, e_quo, e_rem, e_and, e_or, e_xor, e_shl, e_shr, e_eql, e_neq, e_lss, e_leq, e_gtr, e_geq, e_beq, e_bne, e_peq1, e_peq2, e_pne1, e_pne2, e_zeq1, e_zeq2, e_zne1, e_zne2, e_feq1, e_fne1, e_feq2, e_fne2, e_seq, e_sne, e_ta1, e_ta2, Nat.zero_add, Nat.add_zero, Bool.not_true, Bool.not_false]
            obtain ⟨c1, c2⟩ := q1 ⟨hl1, ho⟩
            have e : ((playS a op).1 != 4) = false := by simpa using c1
            simp only [e, e_fd, e_nck, e_pkt, e_pkf, e_gdtt, e_gdtf, e_gdft, e_gdff, e_ift, e_iff, e_not, e_ln, e_lnT, e_cp, e_cvi, e_ex20, e_ex21, e_ex30, e_ex31, e_ex32, e_add, e_sub, e_mul, e_quo, e_rem, e_and, e_or, e_xor, e_shl, e_shr, e_eql, e_neq, e_lss, e_leq, e_gtr, e_geq, e_beq, e_bne, e_peq1, e_peq2, e_pne1, e_pne2, e_zeq1, e_zeq2, e_zne1, e_zne2, e_feq1, e_fne1, e_feq2, e_fne2, e_seq, e_sne, e_ta1, e_ta2, Nat.zero_add, Nat.add_zero, Bool.not_true, Bool.not_false]
            refine crash7 (op := op) (j := j) two row kvp fun w3 m3 t3 r3 k3 => ?_
            exact fin7 hj hl ⟨t3, c2, r3, k3, far, by omega⟩
        · have e : (left == 1) = false := by simpa using hl1
          simp only [e, e_fd, e_nck, e_pkt, e_pkf, e_gdtt, e_gdtf, e_gdft, e_gdff, e_ift, e_iff, e_not, e_ln, e_lnT, e_cp, e_cvi, e_ex20, e_ex21, e_ex30, e_ex31, e_ex32, e_add, e_sub, e_mul, e_quo, e_rem, e_and, e_or, e_xor, e_shl, e_shr, e_eql, e_neq, e_lss, e_leq, e_gtr, e_geq, e_beq, e_bne, e_peq1, e_peq2, e_pne1, e_pne2, e_zeq1, e_zeq2, e_zne1, e_zne2, e_feq1, e_fne1, e_feq2, e_fne2, e_seq, e_sne, e_ta1, e_ta2, Nat.zero_add, Nat.add_zero, Bool.not_true, Bool.not_false]
          exact plain (fun q => hl1 q.1) w2 (Kp.refl _ _)
      · have e : (op.kind == 2) = false := by simpa using k2
        simp only [e, e_fd, e_nck, e_pkt, e_pkf, e_gdtt, e_gdtf, e_gdft, e_gdff, e_ift, e_iff, e_not, e_ln, e_lnT, e_cp, e_cvi, e_ex20, e_ex21, e_ex30, e_ex31, e_ex32, e_add, e_sub, e_mul, e_quo, e_rem, e_and, e_or, e_xor, e_shl, e_shr, e_eql, e_neq, e_lss, e_leq, e_gtr, e_geq, e_beq, e_bne, e_peq1, e_peq2, e_pne1, e_pne2, e_zeq1, e_zeq2, e_zne1, e_zne2, e_feq1, e_fne1, e_feq2, e_fne2, e_seq, e_sne, e_ta1, e_ta2, Nat.zero_add, Nat.add_zero, Bool.not_true, Bool.not_false]
        by_cases k0 : op.kind = 0
        · have e : (op.kind == 0) = true := by simpa using k0
          simp only [e, e_fd, e_nck, e_pkt, e_pkf, e_gdtt, e_gdtf, e_gdft, e_gdff, e_ift, e_iff, e_not, e_ln, e_lnT, e_cp, e_cvi, e_ex20, e_ex21, e_ex30, e_ex31, e_ex32, e_add, e_sub, e_mul, e_quo, e_rem, e_and, e_or, e_xor, e_shl, e_shr, e_eql, e_neq, e_lss, e_leq, e_gtr, e_geq, e_beq, e_bne, e_peq1, e_peq2, e_pne1, e_pne2, e_zeq1, e_zeq2, e_zne1, e_zne2, e_feq1, e_fne1, e_feq2, e_fne2, e_seq, e_sne, e_ta1, e_ta2, Nat.zero_add, Nat.add_zero, Bool.not_true, Bool.not_false]
          refine ldn_r r8 (show 0 + 8 ≤ 8 by decide) ?_
          refine two.play2 (hov.toQ (fun b q => two.b.far b q)) fun w3 m3 bv3 two3 st3 _ => ?_
          have row3 := st3.kp.row row (two.b.dk.ntag row (by decide))
          have kvp3 := kvp.mv (Q' := fun b => W.heap.size ≤ b) st3.kp (fun b _ q => two.b.far b q) (fun b q => .inl q)
          obtain ⟨q1, q2⟩ := hp.write (op := op) k0
          simp only [e_fd, e_nck, e_pkt, e_pkf, e_gdtt, e_gdtf, e_gdft, e_gdff, e_ift, e_iff, e_not, e_ln, e_lnT, e_cp, e_cvi, e_ex20, e_ex21, e_ex30, e_ex31, e_ex32, e_add, e_sub, e_mul, e_quo, e_rem, e_and, e_or, e_xor, e_shl, e_shr, e_eql, e_neq, e_lss, e_leq, e_gtr, e_geq, e_beq, e_bne, e_peq1, e_peq2, e_pne1, e_pne2, e_zeq1, e_zeq2, e_zne1, e_zne2, e_feq1, e_fne1, e_feq2, e_fne2, e_seq, e_sne, e_ta1, e_ta2, Nat.zero_add, Nat.add_zero, Bool.not_true, Bool.not_false]
          by_cases hq : (playS p op).1 = 0 ∧ left = 1
          · have e1 : ((playS p op).1 == 0) = true := by simpa using hq.1
            have e2 : (left == 1) = true := by simpa using hq.2
            obtain ⟨c1, c2, c3⟩ := q1 hq
            have e : ((playS a op).1 != 4) = false := by simpa using c1
            simp only [e1, e2, e, e_fd, e_nck, e_pkt, e_pkf, e_gdtt, e_gdtf, e_gdft, e_gdff, e_ift, e_iff, e_not, e_ln, e_lnT, e_cp, e_cvi, e_ex20, e_ex21, e_ex30, e_ex31, e_ex32, e_add, e_sub, e_mul, e_quo, e_rem, e_and, e_or, e_xor, e_shl, e_shr, e_eql, e_neq, e_lss, e_leq, e_gtr, e_geq, e_beq, e_bne, e_peq1, e_peq2, e_pne1, e_pne2, e_zeq1, e_zeq2, e_zne1, e_zne2, e_feq1, e_fne1, e_feq2, e_fne2, e_seq, e_sne, e_ta1, e_ta2, Nat.zero_add, Nat.add_zero, Bool.not_true, Bool.not_false]
            refine crash7 (op := op) (j := j) two3 row3 kvp3 fun w4 m4 t4 r4 k4 => ?_
            exact fin7 hj hl ⟨t4, c3, r4, k4, far, by omega⟩
          · obtain ⟨c1, c2, c3⟩ := q2 hq
            have e : ((playS p op).1 != (playS a op).1) = false := by rw [c1]; simp
            have rest : boI .neq (I (playS p op).1) (I (playS a op).1) (fun t117 w => ifb t117 (K7 W (.bool false) w) (boI .eql (I (playS a op).1) (.int .i64 0) (fun t119 w => gd t119 true (fun K w => K (I left) w) (fun t121 w => gd t119 true (boI .gtr t121 (.int .i64 0)) (fun t122 w => pk t119 t122 (.bool false) (fun t123 w => ifb t123 (boI .sub (I left) (.int .i64 1) (fun t125 w => s7_p3 (K7 W) (B7 W d1 d2 t6 v xs j) (P d1 0) (P d2 0) t125 (P t6 0) v (I xs.length) (I j) w) w) (s7_p3 (K7 W) (B7 W d1 d2 t6 v xs j) (P d1 0) (P d2 0) (I left) (P t6 0) v (I xs.length) (I j) w)) w) w) w) w)) w3 := by
              simp only [e, e_fd, e_nck, e_pkt, e_pkf, e_gdtt, e_gdtf, e_gdft, e_gdff, e_ift, e_iff, e_not, e_ln, e_lnT, e_cp, e_cvi, e_ex20, e_ex21, e_ex30, e_ex31, e_ex32, e_add, e_sub, e_mul, e_quo, e_rem, e_and, e_or, e_xor, e_shl, e_shr, e_eql, e_neq, e_lss, e_leq, e_gtr, e_geq, e_beq, e_bne, e_peq1, e_peq2, e_pne1, e_pne2, e_zeq1, e_zeq2, e_zne1, e_zne2, e_feq1, e_fne1, e_feq2, e_fne2, e_seq, e_sne, e_ta1, e_ta2, Nat.zero_add, Nat.add_zero, Bool.not_true, Bool.not_false]
              by_cases hc : (playS a op).1 = 0
              · have e : ((playS a op).1 == 0) = true := by simpa using hc
                simp only [e, e_fd, e_nck, e_pkt, e_pkf, e_gdtt, e_gdtf, e_gdft, e_gdff, e_ift, e_iff, e_not, e_ln, e_lnT, e_cp, e_cvi, e_ex20, e_ex21, e_ex30, e_ex31, e_ex32, e_add, e_sub, e_mul, e_quo, e_rem, e_and, e_or, e_xor, e_shl, e_shr, e_eql, e_neq, e_lss, e_leq, e_gtr, e_geq, e_beq, e_bne, e_peq1, e_peq2, e_pne1, e_pne2, e_zeq1, e_zeq2, e_zne1, e_zne2, e_feq1, e_fne1, e_feq2, e_fne2, e_seq, e_sne, e_ta1, e_ta2, Nat.zero_add, Nat.add_zero, Bool.not_true, Bool.not_false]
                by_cases hlp : 0 < left
                · simp only [hlp, decide_true, e_fd, e_nck, e_pkt, e_pkf, e_gdtt, e_gdtf, e_gdft, e_gdff, e_ift, e_iff, e_not, e_ln, e_lnT, e_cp, e_cvi, e_ex20, e_ex21, e_ex30, e_ex31, e_ex32, e_add, e_sub, e_mul, e_quo, e_rem, e_and, e_or, e_xor, e_shl, e_shr, e_eql, e_neq, e_lss, e_leq, e_gtr, e_geq, e_beq, e_bne, e_peq1, e_peq2, e_pne1, e_pne2, e_zeq1, e_zeq2, e_zne1, e_zne2, e_feq1, e_fne1, e_feq2, e_fne2, e_seq, e_sne, e_ta1, e_ta2, Nat.zero_add, Nat.add_zero, Bool.not_true, Bool.not_false]
                  rw [wrap64_id (by omega) (by omega)]
                  exact fin7 hj hl ⟨two3, c2 ⟨hc, hlp⟩, row3, kvp3, far, by omega⟩
                · simp only [hlp, decide_false, e_fd, e_nck, e_pkt, e_pkf, e_gdtt, e_gdtf, e_gdft, e_gdff, e_ift, e_iff, e_not, e_ln, e_lnT, e_cp, e_cvi, e_ex20, e_ex21, e_ex30, e_ex31, e_ex32, e_add, e_sub, e_mul, e_quo, e_rem, e_and, e_or, e_xor, e_shl, e_shr, e_eql, e_neq, e_lss, e_leq, e_gtr, e_geq, e_beq, e_bne, e_peq1, e_peq2, e_pne1, e_pne2, e_zeq1, e_zeq2, e_zne1, e_zne2, e_feq1, e_fne1, e_feq2, e_fne2, e_seq, e_sne, e_ta1, e_ta2, Nat.zero_add, Nat.add_zero, Bool.not_true, Bool.not_false]
                  exact fin7 hj hl ⟨two3, c3 (fun q => hlp q.2), row3, kvp3, far, l1⟩
              · have e : ((playS a op).1 == 0) = false := by simpa using hc
                simp only [e, e_fd, e_nck, e_pkt, e_pkf, e_gdtt, e_gdtf, e_gdft, e_gdff, e_ift, e_iff, e_not, e_ln, e_lnT, e_cp, e_cvi, e_ex20, e_ex21, e_ex30, e_ex31, e_ex32, e_add, e_sub, e_mul, e_quo, e_rem, e_and, e_or, e_xor, e_shl, e_shr, e_eql, e_neq, e_lss, e_leq, e_gtr, e_geq, e_beq, e_bne, e_peq1, e_peq2, e_pne1, e_pne2, e_zeq1, e_zeq2, e_zne1, e_zne2, e_feq1, e_fne1, e_feq2, e_fne2, e_seq, e_sne, e_ta1, e_ta2, Nat.zero_add, Nat.add_zero, Bool.not_true, Bool.not_false]
                exact fin7 hj hl ⟨two3, c3 (fun q => hc q.1), row3, kvp3, far, l1⟩
            simp only [e_fd, e_nck, e_pkt, e_pkf, e_gdtt, e_gdtf, e_gdft, e_gdff, e_ift, e_iff, e_not, e_ln, e_lnT, e_cp, e_cvi, e_ex20, e_ex21, e_ex30, e_ex31, e_ex32, e_add, e_sub, e_mul, e_quo, e_rem, e_and, e_or, e_xor, e_shl, e_shr, e_eql, e_neq, e_lss, e_leq, e_gtr, e_geq, e_beq, e_bne, e_peq1, e_peq2, e_pne1, e_pne2, e_zeq1, e_zeq2, e_zne1, e_zne2, e_feq1, e_fne1, e_feq2, e_fne2, e_seq, e_sne, e_ta1, e_ta2, Nat.zero_add, Nat.add_zero, Bool.not_true, Bool.not_false] at rest
            by_cases hp0 : (playS p op).1 = 0
            · have e1 : ((playS p op).1 == 0) = true := by simpa using hp0
              have e2 : (left == 1) = false := by simpa using (fun q => hq ⟨hp0, q⟩)
              simp only [e1, e2, e_fd, e_nck, e_pkt, e_pkf, e_gdtt, e_gdtf, e_gdft, e_gdff, e_ift, e_iff, e_not, e_ln, e_lnT, e_cp, e_cvi, e_ex20, e_ex21, e_ex30, e_ex31, e_ex32, e_add, e_sub, e_mul, e_quo, e_rem, e_and, e_or, e_xor, e_shl, e_shr, e_eql, e_neq, e_lss, e_leq, e_gtr, e_geq, e_beq, e_bne, e_peq1, e_peq2, e_pne1, e_pne2, e_zeq1, e_zeq2, e_zne1, e_zne2, e_feq1, e_fne1, e_feq2, e_fne2, e_seq, e_sne, e_ta1, e_ta2, Nat.zero_add, Nat.add_zero, Bool.not_true, Bool.not_false]
              exact rest
            · have e1 : ((playS p op).1 == 0) = false := by simpa using hp0
              simp only [e1, e_fd, e_nck, e_pkt, e_pkf, e_gdtt, e_gdtf, e_gdft, e_gdff, e_ift, e_iff, e_not, e_ln, e_lnT, e_cp, e_cvi, e_ex20, e_ex21, e_ex30, e_ex31, e_ex32, e_add, e_sub, e_mul, e_quo, e_rem, e_and, e_or, e_xor, e_shl, e_shr, e_eql, e_neq, e_lss, e_leq, e_gtr, e_geq, e_beq, e_bne, e_peq1, e_peq2, e_pne1, e_pne2, e_zeq1, e_zeq2, e_zne1, e_zne2, e_feq1, e_fne1, e_feq2, e_fne2, e_seq, e_sne, e_ta1, e_ta2, Nat.zero_add, Nat.add_zero, Bool.not_true, Bool.not_false]
              exact rest
        · have e : (op.kind == 0) = false := by simpa using k0
          simp only [e, e_fd, e_nck, e_pkt, e_pkf, e_gdtt, e_gdtf, e_gdft, e_gdff, e_ift, e_iff, e_not, e_ln, e_lnT, e_cp, e_cvi, e_ex20, e_ex21, e_ex30, e_ex31, e_ex32, e_add, e_sub, e_mul, e_quo, e_rem, e_and, e_or, e_xor, e_shl, e_shr, e_eql, e_neq, e_lss, e_leq, e_gtr, e_geq, e_beq, e_bne, e_peq1, e_peq2, e_pne1, e_pne2, e_zeq1, e_zeq2, e_zne1, e_zne2, e_feq1, e_fne1, e_feq2, e_fne2, e_seq, e_sne, e_ta1, e_ta2, Nat.zero_add, Nat.add_zero, Bool.not_true, Bool.not_false]
          refine ldn_r r8 (show 0 + 8 ≤ 8 by decide) ?_
          refine two.play2 (hov.toQ (fun b q => two.b.far b q)) fun w3 m3 bv3 two3 st3 hd3 => ?_
          have row3 := st3.kp.row row (two.b.dk.ntag row (by decide))
          have r83 := st3.kp.row r8 (two.b.dk.ntag r8 (by decide))
          have kvp3 := kvp.mv (Q' := fun b => W.heap.size ≤ b) st3.kp (fun b _ q => two.b.far b q) (fun b q => .inl q)
          obtain ⟨c1, c2, c3, c4⟩ := hp.other (op := op) k0 k2 k5 k6
          simp only [e_fd, e_nck, e_pkt, e_pkf, e_gdtt, e_gdtf, e_gdft, e_gdff, e_ift, e_iff, e_not, e_ln, e_lnT, e_cp, e_cvi, e_ex20, e_ex21, e_ex30, e_ex31, e_ex32, e_add, e_sub, e_mul, e_quo, e_rem, e_and, e_or, e_xor, e_shl, e_shr, e_eql, e_neq, e_lss, e_leq, e_gtr, e_geq, e_beq, e_bne, e_peq1, e_peq2, e_pne1, e_pne2, e_zeq1, e_zeq2, e_zne1, e_zne2, e_feq1, e_fne1, e_feq2, e_fne2, e_seq, e_sne, e_ta1, e_ta2, Nat.zero_add, Nat.add_zero, Bool.not_true, Bool.not_false]
          have e : ((playS p op).1 != (playS a op).1) = false := by rw [c1]; simp
          simp only [e, e_fd, e_nck, e_pkt, e_pkf, e_gdtt, e_gdtf, e_gdft, e_gdff, e_ift, e_iff, e_not, e_ln, e_lnT, e_cp, e_cvi, e_ex20, e_ex21, e_ex30, e_ex31, e_ex32, e_add, e_sub, e_mul, e_quo, e_rem, e_and, e_or, e_xor, e_shl, e_shr, e_eql, e_neq, e_lss, e_leq, e_gtr, e_geq, e_beq, e_bne, e_peq1, e_peq2, e_pne1, e_pne2, e_zeq1, e_zeq2, e_zne1, e_zne2, e_feq1, e_fne1, e_feq2, e_fne2, e_seq, e_sne, e_ta1, e_ta2, Nat.zero_add, Nat.add_zero, Bool.not_true, Bool.not_false]
          have hb1 : Vs U8 w3 bv3 (playS a op).2.1 := by rw [← c2]; exact hd3.toVs two.b.dk
          refine sameBytes_ok hb1 (hbv.kp st3.kp hbvn) fun w4 hk4 => ?_
          simp only [Bool.not_true, e_fd, e_nck, e_pkt, e_pkf, e_gdtt, e_gdtf, e_gdft, e_gdff, e_ift, e_iff, e_not, e_ln, e_lnT, e_cp, e_cvi, e_ex20, e_ex21, e_ex30, e_ex31, e_ex32, e_add, e_sub, e_mul, e_quo, e_rem, e_and, e_or, e_xor, e_shl, e_shr, e_eql, e_neq, e_lss, e_leq, e_gtr, e_geq, e_beq, e_bne, e_peq1, e_peq2, e_pne1, e_pne2, e_zeq1, e_zeq2, e_zne1, e_zne2, e_feq1, e_fne1, e_feq2, e_fne2, e_seq, e_sne, e_ta1, e_ta2, Nat.zero_add, Nat.add_zero, Bool.not_true, Bool.not_false]
          refine ld1_r (hk4.row' r83) (v := I op.kind) rfl ?_
          simp only [e_fd, e_nck, e_pkt, e_pkf, e_gdtt, e_gdtf, e_gdft, e_gdff, e_ift, e_iff, e_not, e_ln, e_lnT, e_cp, e_cvi, e_ex20, e_ex21, e_ex30, e_ex31, e_ex32, e_add, e_sub, e_mul, e_quo, e_rem, e_and, e_or, e_xor, e_shl, e_shr, e_eql, e_neq, e_lss, e_leq, e_gtr, e_geq, e_beq, e_bne, e_peq1, e_peq2, e_pne1, e_pne2, e_zeq1, e_zeq2, e_zne1, e_zne2, e_feq1, e_fne1, e_feq2, e_fne2, e_seq, e_sne, e_ta1, e_ta2, Nat.zero_add, Nat.add_zero, Bool.not_true, Bool.not_false]
          have two4 := two3.kp' hk4
          have row4 := hk4.row' row3
          have kvp4 := kvp3.mv (Q' := fun b => W.heap.size ≤ b) hk4 (fun _ _ q => q.elim) (fun b q => .inl q)
          by_cases k3 : op.kind = 3
          · have e : (op.kind == 3) = true := by simpa using k3
            simp only [e, e_fd, e_nck, e_pkt, e_pkf, e_gdtt, e_gdtf, e_gdft, e_gdff, e_ift, e_iff, e_not, e_ln, e_lnT, e_cp, e_cvi, e_ex20, e_ex21, e_ex30, e_ex31, e_ex32, e_add, e_sub, e_mul, e_quo, e_rem, e_and, e_or, e_xor, e_shl, e_shr, e_eql, e_neq, e_lss, e_leq, e_gtr, e_geq, e_beq, e_bne, e_peq1, e_peq2, e_pne1, e_pne2, e_zeq1, e_zeq2, e_zne1, e_zne2, e_feq1, e_fne1, e_feq2, e_fne2, e_seq, e_sne, e_ta1, e_ta2, Nat.zero_add, Nat.add_zero, Bool.not_true, Bool.not_false]
            by_cases hc : (playS a op).1 = 0
            · have e : ((playS a op).1 == 0) = true := by simpa using hc
              simp only [e, e_fd, e_nck, e_pkt, e_pkf, e_gdtt, e_gdtf, e_gdft, e_gdff, e_ift, e_iff, e_not, e_ln, e_lnT, e_cp, e_cvi, e_ex20, e_ex21, e_ex30, e_ex31, e_ex32, e_add, e_sub, e_mul, e_quo, e_rem, e_and, e_or, e_xor, e_shl, e_shr, e_eql, e_neq, e_lss, e_leq, e_gtr, e_geq, e_beq, e_bne, e_peq1, e_peq2, e_pne1, e_pne2, e_zeq1, e_zeq2, e_zne1, e_zne2, e_feq1, e_fne1, e_feq2, e_fne2, e_seq, e_sne, e_ta1, e_ta2, Nat.zero_add, Nat.add_zero, Bool.not_true, Bool.not_false]
              exact fin7 hj hl ⟨two4, c3 ⟨k3, hc⟩, row4, kvp4, far, by omega⟩
            · have e : ((playS a op).1 == 0) = false := by simpa using hc
              simp only [e, e_fd, e_nck, e_pkt, e_pkf, e_gdtt, e_gdtf, e_gdft, e_gdff, e_ift, e_iff, e_not, e_ln, e_lnT, e_cp, e_cvi, e_ex20, e_ex21, e_ex30, e_ex31, e_ex32, e_add, e_sub, e_mul, e_quo, e_rem, e_and, e_or, e_xor, e_shl, e_shr, e_eql, e_neq, e_lss, e_leq, e_gtr, e_geq, e_beq, e_bne, e_peq1, e_peq2, e_pne1, e_pne2, e_zeq1, e_zeq2, e_zne1, e_zne2, e_feq1, e_fne1, e_feq2, e_fne2, e_seq, e_sne, e_ta1, e_ta2, Nat.zero_add, Nat.add_zero, Bool.not_true, Bool.not_false]
              exact fin7 hj hl ⟨two4, c4 (fun q => hc q.2), row4, kvp4, far, l1⟩
          · have e : (op.kind == 3) = false := by simpa using k3
            simp only [e, e_fd, e_nck, e_pkt, e_pkf, e_gdtt, e_gdtf, e_gdft, e_gdff, e_ift, e_iff, e_not, e_ln, e_lnT, e_cp, e_cvi, e_ex20, e_ex21, e_ex30, e_ex31, e_ex32, e_add, e_sub, e_mul, e_quo, e_rem, e_and, e_or, e_xor, e_shl, e_shr, e_eql, e_neq, e_lss, e_leq, e_gtr, e_geq, e_beq, e_bne, e_peq1, e_peq2, e_pne1, e_pne2, e_zeq1, e_zeq2, e_zne1, e_zne2, e_feq1, e_fne1, e_feq2, e_fne2, e_seq, e_sne, e_ta1, e_ta2, Nat.zero_add, Nat.add_zero, Bool.not_true, Bool.not_false]
            exact fin7 hj hl ⟨two4, c4 (fun q => k3 q.1), row4, kvp4, far, l1⟩

theorem law7_loop (hs : Scr W v xs) (hsm : xs.length ≤ 65536 ∧ ∀ x ∈ xs, x.data.length ≤ 65536 ∧ x.keep.length ≤ 65536) (h : St7 W w d1 d2 t6 m1 m2 a p left keep torn at_ kv) :
    s7_p12 (K7 W) (P d1 0) (P d2 0) (I left) (P t6 0) v (I xs.length) (I 0) w := by
  refine ⟨J7 W d1 d2 t6 v xs, xs.length, ⟨0, m1, m2, a, p, left, keep, torn, at_, kv, by omega, by omega, rfl, h⟩, ?_⟩
  clear h
  rintro n l w ⟨j, m1, m2, a, p, left, keep, torn, at_, kv, hj, rfl, rfl, h⟩
  rw [s7_p12_Fe]
  unfold s7_p11
  simp only [e_fd, e_nck, e_pkt, e_pkf, e_gdtt, e_gdtf, e_gdft, e_gdff, e_ift, e_iff, e_not, e_ln, e_lnT, e_cp, e_cvi, e_ex20, e_ex21, e_ex30, e_ex31, e_ex32, e_add, e_sub, e_mul, e_quo, e_rem, e_and, e_or, e_xor, e_shl, e_shr, e_eql, e_neq, e_lss, e_leq, e_gtr, e_geq, e_beq, e_bne, e_peq1, e_peq2, e_pne1, e_pne2, e_zeq1, e_zeq2, e_zne1, e_zne2, e_feq1, e_fne1, e_feq2, e_fne2, e_seq, e_sne, e_ta1, e_ta2, Nat.zero_add, Nat.add_zero, Bool.not_true, Bool.not_false]
  by_cases hlt : j < xs.length
  · have hlt' : (j : Int) < (xs.length : Int) := by omega
    simp only [hlt', decide_true, e_fd, e_nck, e_pkt, e_pkf, e_gdtt, e_gdtf, e_gdft, e_gdff, e_ift, e_iff, e_not, e_ln, e_lnT, e_cp, e_cvi, e_ex20, e_ex21, e_ex30, e_ex31, e_ex32, e_add, e_sub, e_mul, e_quo, e_rem, e_and, e_or, e_xor, e_shl, e_shr, e_eql, e_neq, e_lss, e_leq, e_gtr, e_geq, e_beq, e_bne, e_peq1, e_peq2, e_pne1, e_pne2, e_zeq1, e_zeq2, e_zne1, e_zne2, e_feq1, e_fne1, e_feq2, e_fne2, e_seq, e_sne, e_ta1, e_ta2, Nat.zero_add, Nat.add_zero, Bool.not_true, Bool.not_false]
    obtain ⟨hdl, hkl⟩ := hsm.2 _ (List.getElem_mem hlt)
    unfold s7_p10
    refine hs.take h.two.a.bel hlt hkl fun w1 ob dv kvo hob r1 hk1 hov hdv hkv sdv skv => ?_
    generalize xs[j] = op at *
    have h1 := h.kp' hk1
    refine ldn_r r1 (show 0 + 8 ≤ 8 by decide) ?_
    refine h1.two.play1 (hov.toQ (fun b q => h1.two.a.far b q)) fun w2 m2' bv two2 st2 hd2 => ?_
    have row2 := st2.kp.row h1.row (h1.two.a.dk.ntag h1.row (by decide))
    have r82 := st2.kp.row r1 (h1.two.a.dk.ntag r1 (by decide))
    have kvp2 := h1.kvp.mv (Q' := fun b => W.heap.size ≤ b) st2.kp (fun b _ q => h1.two.a.far b q) (fun b q => .inl q)
    have hov2 : OpV w2 W.heap.size (.agg (opc dv kvo op).toArray) op := hov.kp st2.kp (fun b q => h1.two.a.far b q)
    simp only [e_fd, e_nck, e_pkt, e_pkf, e_gdtt, e_gdtf, e_gdft, e_gdff, e_ift, e_iff, e_not, e_ln, e_lnT, e_cp, e_cvi, e_ex20, e_ex21, e_ex30, e_ex31, e_ex32, e_add, e_sub, e_mul, e_quo, e_rem, e_and, e_or, e_xor, e_shl, e_shr, e_eql, e_neq, e_lss, e_leq, e_gtr, e_geq, e_beq, e_bne, e_peq1, e_peq2, e_pne1, e_pne2, e_zeq1, e_zeq2, e_zne1, e_zne2, e_feq1, e_fne1, e_feq2, e_fne2, e_seq, e_sne, e_ta1, e_ta2, Nat.zero_add, Nat.add_zero, Bool.not_true, Bool.not_false]
    refine ld1_r r82 (v := I op.kind) rfl ?_
    refine law7_body hlt hsm.1 h.pair two2 row2 kvp2 h.far h.l1 r82 hov2 (hd2.toVs h.two.a.dk) ?_ skv
    intro b o c h0 e q
    obtain ⟨_, hq⟩ := hd2
    rcases hq with ⟨_, e', e''⟩ | ⟨_, b', e', rb, hbb, hnb⟩
    · rw [e''] at h0; simp at h0
    · rw [e'] at e
      cases e
      have := h1.two.b.dk.lt q
      omega
  · have hlt' : ¬ (j : Int) < (xs.length : Int) := by omega
    simp only [hlt', decide_false, e_fd, e_nck, e_pkt, e_pkf, e_gdtt, e_gdtf, e_gdft, e_gdff, e_ift, e_iff, e_not, e_ln, e_lnT, e_cp, e_cvi, e_ex20, e_ex21, e_ex30, e_ex31, e_ex32, e_add, e_sub, e_mul, e_quo, e_rem, e_and, e_or, e_xor, e_shl, e_shr, e_eql, e_neq, e_lss, e_leq, e_gtr, e_geq, e_beq, e_bne, e_peq1, e_peq2, e_pne1, e_pne2, e_zeq1, e_zeq2, e_zne1, e_zne2, e_feq1, e_fne1, e_feq2, e_fne2, e_seq, e_sne, e_ta1, e_ta2, Nat.zero_add, Nat.add_zero, Bool.not_true, Bool.not_false]
    exact ⟨rfl, h.two.a.bel⟩

theorem law7 (hs : Scr W v xs) : cl Try.prog 7 #[v] (fun r w' => r = .bool true ∧ Below W.heap.size W w') W := by
  apply c7
  unfold s7_p13
  refine small_ok hs (Below.refl _ _) fun r hr => ?_
  simp only [e_fd, e_nck, e_pkt, e_pkf, e_gdtt, e_gdtf, e_gdft, e_gdff, e_ift, e_iff, e_not, e_ln, e_lnT, e_cp, e_cvi, e_ex20, e_ex21, e_ex30, e_ex31, e_ex32, e_add, e_sub, e_mul, e_quo, e_rem, e_and, e_or, e_xor, e_shl, e_shr, e_eql, e_neq, e_lss, e_leq, e_gtr, e_geq, e_beq, e_bne, e_peq1, e_peq2, e_pne1, e_pne2, e_zeq1, e_zeq2, e_zne1, e_zne2, e_feq1, e_fne1, e_feq2, e_fne2, e_seq, e_sne, e_ta1, e_ta2, Nat.zero_add, Nat.add_zero, Bool.not_true, Bool.not_false]
  cases r with
  | false =>
    simp only [Bool.not_false, e_fd, e_nck, e_pkt, e_pkf, e_gdtt, e_gdtf, e_gdft, e_gdff, e_ift, e_iff, e_not, e_ln, e_lnT, e_cp, e_cvi, e_ex20, e_ex21, e_ex30, e_ex31, e_ex32, e_add, e_sub, e_mul, e_quo, e_rem, e_and, e_or, e_xor, e_shl, e_shr, e_eql, e_neq, e_lss, e_leq, e_gtr, e_geq, e_beq, e_bne, e_peq1, e_peq2, e_pne1, e_pne2, e_zeq1, e_zeq2, e_zne1, e_zne2, e_feq1, e_fne1, e_feq2, e_fne2, e_seq, e_sne, e_ta1, e_ta2, Nat.zero_add, Nat.add_zero, Bool.not_true, Bool.not_false]
    exact ⟨trivial, Below.refl _ _⟩
  | true =>
    have hr := hr rfl
    simp only [Bool.not_true, e_fd, e_nck, e_pkt, e_pkf, e_gdtt, e_gdtf, e_gdft, e_gdff, e_ift, e_iff, e_not, e_ln, e_lnT, e_cp, e_cvi, e_ex20, e_ex21, e_ex30, e_ex31, e_ex32, e_add, e_sub, e_mul, e_quo, e_rem, e_and, e_or, e_xor, e_shl, e_shr, e_eql, e_neq, e_lss, e_leq, e_gtr, e_geq, e_beq, e_bne, e_peq1, e_peq2, e_pne1, e_pne2, e_zeq1, e_zeq2, e_zne1, e_zne2, e_feq1, e_fne1, e_feq2, e_fne2, e_seq, e_sne, e_ta1, e_ta2, Nat.zero_add, Nat.add_zero, Bool.not_true, Bool.not_false]
    refine fresh_ok fun w1 d1 m1 hd1 hfar1 hk1 => ?_
    refine fresh_ok fun w2 d2 m2 hd2 hfar2 hk2 => ?_
    refine bdq_r rfl ?_
    refine nw_r fun w3 r3 hk3 hz3 => ?_
    refine stn_r r3 rfl (show 0 + 3 ≤ 3 by decide) rfl fun w4 r4 hk4 hz4 => ?_
    refine hs.ln ?_
    have s1 := hk1.size
    have s2 := hk2.size
    have hk24 : Kp (fun _ => False) w2 w4 := hk3.then hk4 (fun k hk (q : k = _) => by omega)
    have two : Two W w2 d1 d2 m1 m2 s0 s0 := ⟨⟨hd1.kp' hk2, hfar1, (hk1.trans hk2).below'⟩, ⟨hd2, fun b q => Nat.le_trans s1 (hfar2 b q), (hk1.trans hk2).below'⟩, fun b q1 q2 => by have := hd1.lt q1; have := hfar2 b q2; omega⟩
    exact law7_loop (keep := []) (torn := 0) (at_ := 0) (kv := nilS) hs hr ⟨two.kp' hk24, ⟨rfl, rfl, rfl, rfl, rfl, by omega, fun q => absurd rfl q⟩, r4, ⟨vs_nil, fun b o c h0 _ => by simp at h0⟩, by omega, by omega⟩
theorem law7_walk (hs : Scr W v xs) : Calls Try.prog 7 #[v] W fun e w' => e = .returned (.bool true) ∧ Below W.heap.size W w' :=
  Calls.mono (law7 hs) fun e w' ⟨v, he, hv, hb⟩ => ⟨by rw [he, hv], hb⟩
end
end Go.Proofs.Qxb6500895a
