import Derived.Test.Qxb6500896aGreatK72
namespace Go.Proofs.Qxb6500896aGreat
open Go.Sh Go.RowKit
set_option linter.unusedVariables false
set_option linter.unusedSimpArgs false

theorem park_mb : park.mb ≤ 4000 := by decide
/-- the journal of the theorems -/
def pj0 : Jr := ⟨48, 72, 1200, false, [], [], 0, false, 0, 0⟩
/-- the rig of a law in a run without failures; V: the law's own variables -/
structure Lz (W : World) (V : Nat → Prop) (w : World) (r e : Nat) (σ : Sg) (J : Jr) : Prop where
  ex : ∃ M m, En M w e m park σ J ∧ Row w r 47 [P m.j 0, P e 0] ∧ (∀ b, M b → W.heap.size ≤ b) ∧ ∀ c, V c → M c ∧ ¬ OwnE e m c ∧ c ≠ r
  k : Kp Emp W w
  i : RgI park σ J
  lo : σ.loose = 0
  r0 : W.heap.size ≤ r
section
variable {W w w' w0 : World} {V S F : Nat → Prop} {r e c : Nat} {σ : Sg} {J : Jr} {K : Value → World → Prop} {v : Value} {bs : List Int} {M : Nat → Prop} {m : Me}
theorem En.nRig {C : Cfg} {l : List Value} (h : En M w e m C σ J) (hr : Row w r 47 l) : ¬ OwnE e m r := by
  intro q
  rcases q with q | q | q | q | q
  · obtain ⟨va, vt, env, re, _⟩ := h.ex
    exact row_ne hr re (by decide) q
  · obtain ⟨T, l', r', q'⟩ := h.tyT q
    have := row_ty hr r'
    subst this
    revert q'; decide
  · obtain ⟨T, l', r', q'⟩ := h.tyL q
    have := row_ty hr r'
    subst this
    revert q'; decide
  · obtain ⟨T, l', r', q'⟩ := h.tyJ q
    have := row_ty hr r'
    subst this
    revert q'; decide
  · obtain ⟨l', r'⟩ := h.tyN q
    exact row_ne hr r' (by decide) rfl
theorem Lz.emp (z : Lz W V w r e σ J) (hk : Kp Emp w w') : Lz W V w' r e σ J := by
  obtain ⟨M, m, h, hr, hM, hV⟩ := z.ex
  exact ⟨⟨M, m, h.kp' hk, hk.row' hr, hM, hV⟩, z.k.trans hk, z.i, z.lo, z.r0⟩
theorem Lz.new (z : Lz W V w r e σ J) (hk : Kp Emp w w') (h1 : w.heap.size ≤ c) (h2 : c < w'.heap.size) : Lz W (fun b => V b ∨ b = c) w' r e σ J := by
  obtain ⟨M, m, h, hr, hM, hV⟩ := z.ex
  have hx := Ext.add h.lt hk h1 h2
  have hz := z.k.size
  refine ⟨⟨_, m, h.ext hx hk (fun _ q => q.elim) (fun _ _ q => q), hk.row' hr, fun b q => ?_, fun b q => ?_⟩, z.k.trans hk, z.i, z.lo, z.r0⟩
  · rcases q with q | q
    · exact hM b q
    · omega
  · rcases q with q | q
    · exact ⟨.inl (hV b q).1, (hV b q).2⟩
    · subst q
      exact ⟨.inr rfl, fun q => by have := h.lt _ (h.own q); omega, fun e => by have := hr.lt; omega⟩
theorem Lz.wr (z : Lz W V w r e σ J) (hk : Kp S w w') (hS : ∀ b, S b → V b) : Lz W V w' r e σ J := by
  obtain ⟨M, m, h, hr, hM, hV⟩ := z.ex
  refine ⟨⟨M, m, h.ext (Ext.same h.lt hk) hk (fun b q _ => (hV b (hS b q)).1) fun b q q2 => (hV b (hS b q2)).2.1 q, hk.row hr fun q => (hV r (hS r q)).2.2 rfl, hM, hV⟩, z.k.then hk fun b hb q => by have := hM b (hV b (hS b q)).1; omega, z.i, z.lo, z.r0⟩
theorem Lz.sub {V' : Nat → Prop} (z : Lz W V w r e σ J) (h : ∀ c, V' c → V c) : Lz W V' w r e σ J := by
  obtain ⟨M, m, h1, hr, hM, hV⟩ := z.ex
  exact ⟨⟨M, m, h1, hr, hM, fun c q => hV c (h c q)⟩, z.k, z.i, z.lo, z.r0⟩
theorem isReq_ok {p : Op × Value} (hK : ∀ w', Kp Emp w w' → K (.bool (p.1.kind == 0 || p.1.kind == 4)) w') : cl Tryz.prog 22 #[.agg (opC p).toArray] K w := by
  apply c22
  unfold s22_p1
  refine nw_r fun w1 r1 hk1 hz1 => ?_
  replace r1 : Row w1 w.heap.size 39 (opC p) := r1
  try simp only [e_fd, e_nck, e_pkt, e_pkf, e_gdtt, e_gdtf, e_gdft, e_gdff, e_ift, e_iff, e_not, e_ln, e_lnT, e_cp, e_cvi, e_ex20, e_ex21, e_ex30, e_ex31, e_ex32, e_add, e_sub, e_mul, e_quo, e_rem, e_and, e_or, e_xor, e_shl, e_shr, e_eql, e_neq, e_lss, e_leq, e_gtr, e_geq, e_beq, e_bne, e_peq1, e_peq2, e_pne1, e_pne2, e_zeq1, e_zeq2, e_zne1, e_zne2, e_feq1, e_fne1, e_feq2, e_fne2, e_seq, e_sne, e_ta1, e_ta2, Nat.zero_add, Nat.add_zero, Bool.not_true, Bool.not_false]
  refine ld1_r r1 rfl ?_
  have hK := hK w1 hk1
  try simp only [e_fd, e_nck, e_pkt, e_pkf, e_gdtt, e_gdtf, e_gdft, e_gdff, e_ift, e_iff, e_not, e_ln, e_lnT, e_cp, e_cvi, e_ex20, e_ex21, e_ex30, e_ex31, e_ex32, e_add, e_sub, e_mul, e_quo, e_rem, e_and, e_or, e_xor, e_shl, e_shr, e_eql, e_neq, e_lss, e_leq, e_gtr, e_geq, e_beq, e_bne, e_peq1, e_peq2, e_pne1, e_pne2, e_zeq1, e_zeq2, e_zne1, e_zne2, e_feq1, e_fne1, e_feq2, e_fne2, e_seq, e_sne, e_ta1, e_ta2, Nat.zero_add, Nat.add_zero, Bool.not_true, Bool.not_false]
  cases h : (p.1.kind == 0) with
  | true =>
    rw [h] at hK
    simp only [Bool.true_or, e_fd, e_nck, e_pkt, e_pkf, e_gdtt, e_gdtf, e_gdft, e_gdff, e_ift, e_iff, e_not, e_ln, e_lnT, e_cp, e_cvi, e_ex20, e_ex21, e_ex30, e_ex31, e_ex32, e_add, e_sub, e_mul, e_quo, e_rem, e_and, e_or, e_xor, e_shl, e_shr, e_eql, e_neq, e_lss, e_leq, e_gtr, e_geq, e_beq, e_bne, e_peq1, e_peq2, e_pne1, e_pne2, e_zeq1, e_zeq2, e_zne1, e_zne2, e_feq1, e_fne1, e_feq2, e_fne2, e_seq, e_sne, e_ta1, e_ta2, Nat.zero_add, Nat.add_zero, Bool.not_true, Bool.not_false] at hK ⊢
    exact hK
  | false =>
    rw [h] at hK
    simp only [Bool.false_or, e_fd, e_nck, e_pkt, e_pkf, e_gdtt, e_gdtf, e_gdft, e_gdff, e_ift, e_iff, e_not, e_ln, e_lnT, e_cp, e_cvi, e_ex20, e_ex21, e_ex30, e_ex31, e_ex32, e_add, e_sub, e_mul, e_quo, e_rem, e_and, e_or, e_xor, e_shl, e_shr, e_eql, e_neq, e_lss, e_leq, e_gtr, e_geq, e_beq, e_bne, e_peq1, e_peq2, e_pne1, e_pne2, e_zeq1, e_zeq2, e_zne1, e_zne2, e_feq1, e_fne1, e_feq2, e_fne2, e_seq, e_sne, e_ta1, e_ta2, Nat.zero_add, Nat.add_zero, Bool.not_true, Bool.not_false] at hK ⊢
    refine ld1_r r1 rfl ?_
    try simp only [e_fd, e_nck, e_pkt, e_pkf, e_gdtt, e_gdtf, e_gdft, e_gdff, e_ift, e_iff, e_not, e_ln, e_lnT, e_cp, e_cvi, e_ex20, e_ex21, e_ex30, e_ex31, e_ex32, e_add, e_sub, e_mul, e_quo, e_rem, e_and, e_or, e_xor, e_shl, e_shr, e_eql, e_neq, e_lss, e_leq, e_gtr, e_geq, e_beq, e_bne, e_peq1, e_peq2, e_pne1, e_pne2, e_zeq1, e_zeq2, e_zne1, e_zne2, e_feq1, e_fne1, e_feq2, e_fne2, e_seq, e_sne, e_ta1, e_ta2, Nat.zero_add, Nat.add_zero, Bool.not_true, Bool.not_false]
    exact hK
theorem pj_ok2 (hK : ∀ w', Kp Emp w w' → K (.agg #[I 48, I 72, I 1200]) w') : cl Tryz.prog 19 #[] K w := by
  apply c19
  unfold s19_p1
  refine nw_r fun w1 r1 hk1 hz1 => ?_
  refine bdq_r (l := [I 48, I 72, I 1200]) rfl ?_
  refine stn_r (cs := [I 48, I 72, I 1200]) r1 rfl (show 0 + 3 ≤ 3 by decide) rfl fun w2 r2 hk2 hz2 => ?_
  replace r2 : Row w2 w.heap.size 27 [I 48, I 72, I 1200] := r2
  refine ldn_r r2 (show 0 + 3 ≤ 3 by decide) ?_
  exact hK w2 (hk1.then hk2 fun k hk (q : k = _) => by omega)
/-- an empty journal -/
def jr0 (a b c : Int) : Jr := ⟨a, b, c, false, [], [], 0, false, 0, 0⟩
theorem rgi0 (a b c : Int) : RgI park (sg0 park) (jr0 a b c) := by
  refine ⟨Gd.zero park_cv, rfl, rfl, rfl, rfl, Nat.le_refl _, rfl, ⟨(fun x hx => by cases hx), (fun x hx => by cases hx), by simp [jr0]⟩, ⟨sg0 park, ?_, Core.refl _⟩⟩
  unfold opn1 opn0
  rfl
theorem newRig_ok {a b c : Int} (hb : small b) (hk0 : Kp Emp W w) (hK : ∀ w' r e, Lz W Emp w' r e (sg0 park) (jr0 a b c) → Kp Emp w w' → K (P r 0) w') : cl Tryz.prog 18 #[.agg #[I a, I b, I c]] K w := by
  have hWz := hk0.size
  apply c18
  unfold s18_p4
  refine nw_r fun w1 r1 hk1 hz1 => ?_
  replace r1 : Row w1 w.heap.size 27 [I a, I b, I c] := r1
  refine ldn_r r1 (show 0 + 3 ≤ 3 by decide) ?_
  refine jnew_ok (M := Emp) hb (fun b q => q.elim) fun w2 M2 j hx2 hk2 hj2 jn2 => ?_
  refine bdq_r (l := [P j 0, .pointer none]) rfl ?_
  refine nw_r fun w3 r3 hk3 hz3 => ?_
  replace r3 : Row w3 w2.heap.size 47 [P j 0, .pointer none] := r3
  have s2 := hk2.size
  have jlt := jn2.lt j jn2.mj
  -- the rig's block is written too
  have hx3 : Ext M2 (fun b => M2 b ∨ b = w2.heap.size) w2 w3 := Ext.add jn2.lt hk3 (Nat.le_refl _) (by omega)
  have jn3 := jn2.ext hx3 hk3 (fun _ q => q.elim) (fun _ _ q => q)
  unfold s18_p3 s18_p3_d
  have kd : Kp Emp w3 (drw w3) := kp_drw
  have szd : (drw w3).heap.size = w3.heap.size := rfl
  generalize drw w3 = w4 at kd szd ⊢
  have r4 := kd.row' r3
  try simp only [e_fd, e_nck, e_pkt, e_pkf, e_gdtt, e_gdtf, e_gdft, e_gdff, e_ift, e_iff, e_not, e_ln, e_lnT, e_cp, e_cvi, e_ex20, e_ex21, e_ex30, e_ex31, e_ex32, e_add, e_sub, e_mul, e_quo, e_rem, e_and, e_or, e_xor, e_shl, e_shr, e_eql, e_neq, e_lss, e_leq, e_gtr, e_geq, e_beq, e_bne, e_peq1, e_peq2, e_pne1, e_pne2, e_zeq1, e_zeq2, e_zne1, e_zne2, e_feq1, e_fne1, e_feq2, e_fne2, e_seq, e_sne, e_ta1, e_ta2, Nat.zero_add, Nat.add_zero, Bool.not_true, Bool.not_false]
  refine ld1_r r4 rfl ?_
  refine park_ok fun w5 l5 hk5 hc5 => ⟨hk5.below', ?_⟩
  have jn5 := (jn3.kp' kd).kp' hk5
  have r5 := hk5.row' r4
  refine open_new hc5 park_v jn5 rfl rfl rfl rfl (fun b hb => by have := hb.1; omega) fun w6 M6 e m hx6 hk6 hmj hml hown he6 => ?_
  have r6 := hk6.row r5 (show ¬ w2.heap.size = j by omega)
  simp only [ex2_0, ex2_1, and_self]
  unfold s18_p2
  try simp only [e_fd, e_nck, e_pkt, e_pkf, e_gdtt, e_gdtf, e_gdft, e_gdff, e_ift, e_iff, e_not, e_ln, e_lnT, e_cp, e_cvi, e_ex20, e_ex21, e_ex30, e_ex31, e_ex32, e_add, e_sub, e_mul, e_quo, e_rem, e_and, e_or, e_xor, e_shl, e_shr, e_eql, e_neq, e_lss, e_leq, e_gtr, e_geq, e_beq, e_bne, e_peq1, e_peq2, e_pne1, e_pne2, e_zeq1, e_zeq2, e_zne1, e_zne2, e_feq1, e_fne1, e_feq2, e_fne2, e_seq, e_sne, e_ta1, e_ta2, Nat.zero_add, Nat.add_zero, Bool.not_true, Bool.not_false]
  unfold s18_p1
  try simp only [e_fd, e_nck, e_pkt, e_pkf, e_gdtt, e_gdtf, e_gdft, e_gdff, e_ift, e_iff, e_not, e_ln, e_lnT, e_cp, e_cvi, e_ex20, e_ex21, e_ex30, e_ex31, e_ex32, e_add, e_sub, e_mul, e_quo, e_rem, e_and, e_or, e_xor, e_shl, e_shr, e_eql, e_neq, e_lss, e_leq, e_gtr, e_geq, e_beq, e_bne, e_peq1, e_peq2, e_pne1, e_pne2, e_zeq1, e_zeq2, e_zne1, e_zne2, e_feq1, e_fne1, e_feq2, e_fne2, e_seq, e_sne, e_ta1, e_ta2, Nat.zero_add, Nat.add_zero, Bool.not_true, Bool.not_false]
  have hMr : M6 w2.heap.size := hx6.sub _ (.inr rfl)
  refine st1_r r6 (show 1 < 2 by decide) rfl fun w7 r7 hk7 hz7 => ?_
  replace r7 : Row w7 w2.heap.size 47 [P j 0, P e 0] := r7
  have nown := he6.nRig r6
  have h7 := he6.ext (Ext.same he6.lt hk7) hk7 (fun b (q : b = _) _ => q ▸ hMr) fun b q (q2 : b = _) => nown (q2 ▸ q)
  have hM6 : ∀ b, M6 b → w.heap.size ≤ b := fun b q => by
    have s5 := hk5.size
    rcases hx6.new b q with q | q
    · rcases q with q | q
      · rcases hx2.new b q with q | q
        · exact q.elim
        · omega
      · omega
    · omega
  have k7 : Kp Emp w w7 := ((((hk1.trans hk2).trans hk3).trans (kd.trans hk5)).then hk6 fun b hb (q : b = j) => by omega).then hk7 fun b hb (q : b = _) => by omega
  refine hK w7 w2.heap.size e ⟨⟨M6, m, h7, ?_, fun b q => by have := hM6 b q; omega, fun c q => q.elim⟩, hk0.trans k7, rgi0 a b c, rfl, by omega⟩ k7
  rw [hmj]; exact r7
theorem eb_of (z : Lz W V w r e σ J) (hq : σ.seq ≤ 1000000000) : EB σ := by
  obtain ⟨M, m, h, _⟩ := z.ex
  have hl := h.jn.ok.tot
  have hl2 := len_tot J.log
  have ht := z.i.tl
  have hlo := z.lo
  have hs := z.i.g.seq
  have hn := z.i.g.now
  exact ⟨by omega, by omega, by omega, by omega, by omega, by omega⟩
/-- a request is sent -/
theorem Lz.send (z : Lz W V w r e σ J) (hq : σ.seq ≤ 1000000000) (hx : Ar bC 1 F w v bs) (hF : ∀ b, F b → b < w.heap.size) (hB : By bs)
    (hK : ∀ w' v' b S, Lz W (fun c => V c ∨ c = b) w' r e (hndS park bs σ J).1 (hndS park bs σ J).2.1 → Sl bC 1 w' 5 (some b) v' (eR (hndS park bs σ J).2.2) → w.heap.size ≤ b → Kp S w w' → (∀ c, V c → ¬ S c) → (∀ c, c < W.heap.size → ¬ S c) → K v' w') : cl Tryz.prog 24 #[P r 0, v] K w := by
  have eb := eb_of z hq
  obtain ⟨M, m, h, hr, hM, hV⟩ := z.ex
  apply c24
  unfold s24_p1
  try simp only [e_fd, e_nck, e_pkt, e_pkf, e_gdtt, e_gdtf, e_gdft, e_gdff, e_ift, e_iff, e_not, e_ln, e_lnT, e_cp, e_cvi, e_ex20, e_ex21, e_ex30, e_ex31, e_ex32, e_add, e_sub, e_mul, e_quo, e_rem, e_and, e_or, e_xor, e_shl, e_shr, e_eql, e_neq, e_lss, e_leq, e_gtr, e_geq, e_beq, e_bne, e_peq1, e_peq2, e_pne1, e_pne2, e_zeq1, e_zeq2, e_zne1, e_zne2, e_feq1, e_fne1, e_feq2, e_fne2, e_seq, e_sne, e_ta1, e_ta2, Nat.zero_add, Nat.add_zero, Bool.not_true, Bool.not_false]
  refine ld1_r hr rfl ?_
  try simp only [e_fd, e_nck, e_pkt, e_pkf, e_gdtt, e_gdtf, e_gdft, e_gdff, e_ift, e_iff, e_not, e_ln, e_lnT, e_cp, e_cvi, e_ex20, e_ex21, e_ex30, e_ex31, e_ex32, e_add, e_sub, e_mul, e_quo, e_rem, e_and, e_or, e_xor, e_shl, e_shr, e_eql, e_neq, e_lss, e_leq, e_gtr, e_geq, e_beq, e_bne, e_peq1, e_peq2, e_pne1, e_pne2, e_zeq1, e_zeq2, e_zne1, e_zne2, e_feq1, e_fne1, e_feq2, e_fne2, e_seq, e_sne, e_ta1, e_ta2, Nat.zero_add, Nat.add_zero, Bool.not_true, Bool.not_false]
  refine ld1_r hr rfl ?_
  have hi := z.i.hnd park_cv park_mb hB (by omega)
  refine hndE_ok park_cv (by decide) (fun _ => z.i.g) eb h hx hF hB fun w1 M1 m1 v1 b1 hx1 hk1 hj1 ho1 h1 s1 fb1 mb1 => ?_
  have hWz := z.k.size
  refine hK w1 v1 b1 (OwnE e m) ⟨⟨M1, m1, h1, ?_, fun b q => ?_, fun c q => ?_⟩, z.k.then hk1 fun b hb q => ?_, hi.1, hi.2.1, z.r0⟩ s1 fb1.1 hk1 (fun c q => (hV c q).2.1) fun c hc q => ?_
  · rw [hj1]; exact hk1.row hr (h.nRig hr)
  · rcases hx1.new b q with q | q
    · exact hM b q
    · omega
  · rcases q with q | q
    · refine ⟨hx1.sub c (hV c q).1, fun q2 => ?_, (hV c q).2.2⟩
      rcases ho1 c q2 with q2 | q2
      · exact (hV c q).2.1 q2
      · have := h.lt c (hV c q).1; omega
    · subst q
      exact ⟨mb1, fb1.2.2, fun e => by have := hr.lt; have := fb1.1; omega⟩
  · have := hM b (h.own q); omega
  · have := hM c (h.own q); omega
end
end Go.Proofs.Qxb6500896aGreat
