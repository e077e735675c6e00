import Derived.Test.Qxb6500896aGreatC4
import Derived.Test.Qxb6500896aGreatC8
namespace Go.Proofs.Qxb6500896aGreat
open Go.Sh Go.RowKit
set_option linter.unusedVariables false
set_option linter.unusedSimpArgs false

section
variable {W w w' w0 : World} {V S F : Nat → Prop} {r e c : Nat} {σ : Sg} {J : Jr} {K : Value → World → Prop} {v : Value} {bs : List Int} {M : Nat → Prop} {m : Me}
theorem newRigF_ok {a b c : Int} (hb : small b) (hk0 : Kp Emp W w) (hK : ∀ w' r e, Le W Emp w' r e (sg0 park) (jr0 a b c) → Kp Emp w w' → K (P r 0) w') : cl Tryz.prog 18 #[.agg #[I a, I b, I c]] K w := by
  have hWz := hk0.size
  apply c18
  unfold s18_p4
  refine nw_r fun w1 r1 hk1 hz1 => ?_
  replace r1 : Row w1 w.heap.size 27 [I a, I b, I c] := r1
  refine ldn_r r1 (show 0 + 3 ≤ 3 by decide) ?_
  refine jnew_ok (M := Emp) hb (fun b q => q.elim) fun w2 M2 j hx2 hk2 hj2 jn2 => ?_
  refine bdq_r (l := [P j 0, .pointer none]) rfl ?_
  refine nw_r fun w3 r3 hk3 hz3 => ?_
  replace r3 : Row w3 w2.heap.size 47 [P j 0, .pointer none] := r3
  have s2 := hk2.size
  have jlt := jn2.lt j jn2.mj
  -- the rig's block is written too
  have hx3 : Ext M2 (fun b => M2 b ∨ b = w2.heap.size) w2 w3 := Ext.add jn2.lt hk3 (Nat.le_refl _) (by omega)
  have jn3 := jn2.ext hx3 hk3 (fun _ q => q.elim) (fun _ _ q => q)
  unfold s18_p3 s18_p3_d
  have kd : Kp Emp w3 (drw w3) := kp_drw
  have szd : (drw w3).heap.size = w3.heap.size := rfl
  generalize drw w3 = w4 at kd szd ⊢
  have r4 := kd.row' r3
  try simp only [e_fd, e_nck, e_pkt, e_pkf, e_gdtt, e_gdtf, e_gdft, e_gdff, e_ift, e_iff, e_not, e_ln, e_lnT, e_cp, e_cvi, e_ex20, e_ex21, e_ex30, e_ex31, e_ex32, e_add, e_sub, e_mul, e_quo, e_rem, e_and, e_or, e_xor, e_shl, e_shr, e_eql, e_neq, e_lss, e_leq, e_gtr, e_geq, e_beq, e_bne, e_peq1, e_peq2, e_pne1, e_pne2, e_zeq1, e_zeq2, e_zne1, e_zne2, e_feq1, e_fne1, e_feq2, e_fne2, e_seq, e_sne, e_ta1, e_ta2, Nat.zero_add, Nat.add_zero, Bool.not_true, Bool.not_false]
  refine ld1_r r4 rfl ?_
  refine park_ok fun w5 l5 hk5 hc5 => ⟨hk5.below', ?_⟩
  have jn5 := (jn3.kp' kd).kp' hk5
  have r5 := hk5.row' r4
  refine open_new hc5 park_v jn5 rfl rfl rfl rfl (fun b hb => by have := hb.1; omega) fun w6 M6 e m hx6 hk6 hmj hml hown he6 => ?_
  have r6 := hk6.row r5 (show ¬ w2.heap.size = j by omega)
  simp only [ex2_0, ex2_1, and_self]
  unfold s18_p2
  try simp only [e_fd, e_nck, e_pkt, e_pkf, e_gdtt, e_gdtf, e_gdft, e_gdff, e_ift, e_iff, e_not, e_ln, e_lnT, e_cp, e_cvi, e_ex20, e_ex21, e_ex30, e_ex31, e_ex32, e_add, e_sub, e_mul, e_quo, e_rem, e_and, e_or, e_xor, e_shl, e_shr, e_eql, e_neq, e_lss, e_leq, e_gtr, e_geq, e_beq, e_bne, e_peq1, e_peq2, e_pne1, e_pne2, e_zeq1, e_zeq2, e_zne1, e_zne2, e_feq1, e_fne1, e_feq2, e_fne2, e_seq, e_sne, e_ta1, e_ta2, Nat.zero_add, Nat.add_zero, Bool.not_true, Bool.not_false]
  unfold s18_p1
  try simp only [e_fd, e_nck, e_pkt, e_pkf, e_gdtt, e_gdtf, e_gdft, e_gdff, e_ift, e_iff, e_not, e_ln, e_lnT, e_cp, e_cvi, e_ex20, e_ex21, e_ex30, e_ex31, e_ex32, e_add, e_sub, e_mul, e_quo, e_rem, e_and, e_or, e_xor, e_shl, e_shr, e_eql, e_neq, e_lss, e_leq, e_gtr, e_geq, e_beq, e_bne, e_peq1, e_peq2, e_pne1, e_pne2, e_zeq1, e_zeq2, e_zne1, e_zne2, e_feq1, e_fne1, e_feq2, e_fne2, e_seq, e_sne, e_ta1, e_ta2, Nat.zero_add, Nat.add_zero, Bool.not_true, Bool.not_false]
  have hMr : M6 w2.heap.size := hx6.sub _ (.inr rfl)
  refine st1_r r6 (show 1 < 2 by decide) rfl fun w7 r7 hk7 hz7 => ?_
  replace r7 : Row w7 w2.heap.size 47 [P j 0, P e 0] := r7
  have nown := he6.nRig r6
  have h7 := he6.ext (Ext.same he6.lt hk7) hk7 (fun b (q : b = _) _ => q ▸ hMr) fun b q (q2 : b = _) => nown (q2 ▸ q)
  have hM6 : ∀ b, M6 b → w.heap.size ≤ b := fun b q => by
    have s5 := hk5.size
    rcases hx6.new b q with q | q
    · rcases q with q | q
      · rcases hx2.new b q with q | q
        · exact q.elim
        · omega
      · omega
    · omega
  have k7 : Kp Emp w w7 := ((((hk1.trans hk2).trans hk3).trans (kd.trans hk5)).then hk6 fun b hb (q : b = j) => by omega).then hk7 fun b hb (q : b = _) => by omega
  refine hK w7 w2.heap.size e ⟨⟨M6, m, h7, ⟨?_, hMr⟩, fun b q => by have := hM6 b q; omega, fun c q => q.elim⟩, hk0.trans k7, by omega⟩ k7
  rw [hmj]; exact r7
end
theorem gs0 : GS 0 (sg0 park) := ⟨fun _ => Gd.zero park_cv, fun _ => rfl, ⟨by decide, by decide⟩, ⟨by decide, by decide⟩, ⟨by decide, by decide⟩⟩
theorem gj0 : GJ 0 (jr0 48 72 1200) := ⟨⟨(fun x hx => by cases hx), (fun x hx => by cases hx), by simp [jr0]⟩, Jlm.zero.2 (by decide), by unfold sJ; simp [jr0]⟩
/-- the rig, whatever struck it -/
def LsF (W : World) (V : Nat → Prop) (w : World) (r : Nat) (J : Jr) (k : Int) : Prop := (∃ e σ, Le W V w r e σ J ∧ GS k σ) ∨ La W V w r (.pointer none) J
section
variable {W w w' w0 w1 : World} {V V' S F : Nat → Prop} {r e c n : Nat} {σ : Sg} {J : Jr} {K : Value → World → Prop} {B : List Value → World → Prop} {v t15 t16 t17 : Value} {bs : List Int} {M : Nat → Prop} {m : Me} {k : Int} {xs : List Op} {p : Op × Value}
theorem LsF.gro (h : LsF W V w r J k) (hk : Kp S w w') (hS : ∀ b, S b → V b) : LsF W (fun b => V b ∨ Nb w w' b) w' r J k := by
  rcases h with ⟨e, σ, z, g⟩ | z
  · exact .inl ⟨e, σ, z.gro hk hS, g⟩
  · exact .inr (z.gro hk hS)
theorem LsF.sub (h : LsF W V w r J k) (hV : ∀ c, V' c → V c) : LsF W V' w r J k := by
  rcases h with ⟨e, σ, z, g⟩ | z
  · exact .inl ⟨e, σ, z.sub hV, g⟩
  · exact .inr (z.sub hV)
theorem LsF.kp0 (h : LsF W V w r J k) : Kp Emp W w := by
  rcases h with ⟨e, σ, z, g⟩ | z
  · exact z.k
  · exact z.k
theorem LsF.mono {k' : Int} (h : LsF W V w r J k) (hk : k ≤ k') : LsF W V w r J k' := by
  rcases h with ⟨e, σ, z, g⟩ | z
  · exact .inl ⟨e, σ, z, g.mono hk⟩
  · exact .inr z
theorem g_f0 {X : (Value → World → Prop) → World → Prop} (h : K undef w) : gd (.bool false) true X K w := ⟨h⟩
theorem g_un {X : (Value → World → Prop) → World → Prop} {b : Bool} (h : K undef w) : gd undef b X K w := ⟨h⟩
/-- after a step: the test and the audit -/
theorem occ_p3 (h : LsF W V w r J k) (hk : k ≤ 1000000) (hVc : V c) (rc : Row w c 143 [sendV r])
    (next : ∀ w' V', LsF W V' w' r J k → (∀ b, V b → V' b) → Row w' c 143 [sendV r] → s5_p2 K B (P r 0) (P c 0) t15 t16 t17 w') : s5_p3 K B (P r 0) (P c 0) t15 t16 t17 w := by
  unfold s5_p3
  have no : ∀ {X1 X2 X3 X4 : (Value → World → Prop) → World → Prop}, True := fun {_ _ _ _} => trivial
  have down : LsF W V w r J k → gd (.bool false) true (fun K w => K (P c 0) w) (fun t49 w => gd (.bool false) true (cl Tryz.prog 35 #[t49]) (fun t50 w => gd (.bool false) true (un .not t50) (fun t51 w => gd (.bool false) true (fun K w => K t51 w) (fun t52 w => gd t52 false (fun K w => K (P r 0) w) (fun t53 w => gd t52 false (nck t53) (fun t54 w => gd t52 false (fd 1 t54) (fun t55 w => gd t52 false (ld1 t55) (fun t56 w => gd t52 false (cl Tryz.prog 36 #[t56]) (fun t57 w => gd t52 false (un .not t57) (fun t58 w => gd (.bool false) true (pk t52 (.bool true) t58) (fun t59 w => pk (.bool false) t59 (.bool false) (fun t60 w => ifb t60 (K (.bool false) w) (s5_p2 K B (P r 0) (P c 0) t15 t16 t17 w)) w) w) w) w) w) w) w) w) w) w) w) w := by
    intro h
    refine g_f0 (g_f0 (g_f0 (g_f0 ?_)))
    refine g_un (g_un (g_un (g_un (g_un (g_un ?_)))))
    refine g_f0 ?_
    refine p_kf ?_
    refine sw_f ?_
    exact next w V h (fun b q => q) rc
  rcases id h with ⟨e, σ, z, g⟩ | z
  · refine z.up ?_
    cases hd : σ.down with
    | true => exact down h
    | false =>
      have gd0 := g.g hd
      have srv := Le.srv (W := W) (r := r) (e := e) (J := J) g hk hd
      simp only [Bool.not_false, e_gdtt]
      refine bounded_ok srv (ansE_up g hd) gd0 ⟨σ, z, Core.refl σ, hd, g.lo hd, rfl⟩ rc hVc fun w1 V1 ⟨σ1, z1, c1, d1, d2, d3⟩ hV1 ky1 => ?_
      have g1 : GS k σ1 := ⟨fun _ => c1.gd gd0, fun _ => d2, by rw [c1.seq]; exact g.s, by rw [d3]; exact g.t, by rw [d2]; have := g.l; omega⟩
      have rc1 := ky1.row hVc rc
      simp only [Bool.not_true, e_not, e_gdff, e_pkf, e_pkt]
      obtain ⟨M, m, he, ⟨hr, hMr⟩, hM, hV⟩ := id z1.ex
      refine nk0 (fdp (ld1_r (v := P e 0) hr rfl ?_))
      have gd1 := g1.g d1
      refine audit_ok he park_cv (gd1.imn park_cv _) gd1.li.len fun w2 hk2 => ?_
      have hch : chkImg park (img park σ1) = true := gd1.chk park_cv
      rw [hch]
      simp only [Bool.not_true, e_not, e_iff]
      exact next w2 V1 (.inl ⟨e, σ1, z1.emp hk2, g1⟩) hV1 (hk2.row' rc1)
  · refine z.up ?_
    exact down h
theorem LsF.la (h : LsF W V w r J k) : ∃ x, La W V w r x J := by
  rcases h with ⟨e, σ, z, g⟩ | z
  · exact ⟨_, z.la⟩
  · exact ⟨_, z⟩
set_option maxHeartbeats 4000000 in
theorem occ_walk (hs : Scr W v xs) : cl Tryz.prog 5 #[v] (fun e W' => e = .bool true ∧ Below W.heap.size W W') W := by
  apply c5
  unfold s5_p14
  refine small_ok hs (Kp.refl _ _) fun rr hr => ?_
  cases rr with
  | false =>
    simp only [Bool.not_false, e_not, e_ift]
    exact ⟨trivial, (Kp.refl _ _).below'⟩
  | true =>
    obtain ⟨hxl, hbl⟩ := hr rfl
    simp only [Bool.not_true, e_not, e_iff]
    refine pj_ok2 fun w1 hk1 => ?_
    refine newRigF_ok (a := 48) (b := 72) (c := 1200) ⟨by decide, by decide⟩ hk1 fun w2 r e z2 hk2 => ?_
    apply c31
    unfold s31_p1
    refine bdq_r (l := [sendV r]) rfl ?_
    refine nw_r fun w3 r3 hk3 hz3 => ?_
    replace r3 : Row w3 w2.heap.size 143 [sendV r] := r3
    have h3 : LsF W (fun b => b = w2.heap.size) w3 r (jr0 48 72 1200) 0 := (LsF.gro (S := Emp) (.inl ⟨e, _, z2, gs0⟩) hk3 fun b q => q.elim).sub fun b q => .inr ⟨by omega, by omega⟩
    generalize w2.heap.size = c at r3 h3
    obtain ⟨its, h1, h2, hits⟩ := hs
    have hil : its.length = xs.length := by rw [← h1, List.length_map]
    refine h2.ln ?_
    unfold s5_p13
    refine loop_n its.length (fun i l w' => ∃ J, l = [P r 0, P c 0, v, I (its.length : Nat), I (i : Nat)] ∧ LsF W (fun b => b = c) w' r J ((i : Nat) : Int) ∧ GJ ((i : Nat) : Int) J ∧ Row w' c 143 [sendV r]) ⟨_, rfl, h3, gj0, r3⟩ ?_ ?_
    · rintro i l w4 hi ⟨J, rfl, l4, g4, rc4⟩ B hB
      rw [s5_p13_Fe]
      unfold s5_p12
      have hp := hits _ (List.getElem_mem hi)
      simp only [dlt hi, e_lss, e_ift]
      unfold s5_p11
      refine each_r rfl (h2.kp' l4.kp0) hi (opC_len _) (by simp only [opC, List.all_cons, List.all_nil, hp.1.scal]; rfl) fun w5 r5 hk5 hz5 => ?_
      have l5 := l4.gro (S := Emp) hk5 fun b q => q.elim
      have rc5 := hk5.row' rc4
      generalize its[i] = op at hp r5 ⊢
      have v5 : (w4.heap.size = c ∨ Nb w4 w5 w4.heap.size) := .inr ⟨Nat.le_refl _, by omega⟩
      -- what follows every step
      have fin : ∀ (w6 : World) (V6 : Nat → Prop) (J6 : Jr), LsF W V6 w6 r J6 ((i + 1 : Nat) : Int) → GJ ((i + 1 : Nat) : Int) J6 → V6 c → Row w6 c 143 [sendV r] → s5_p3 (fun e W' => e = .bool true ∧ Below W.heap.size W W') B (P r 0) (P c 0) v (I (its.length : Nat)) (I (i : Nat)) w6 := by
        intro w6 V6 J6 l6 g6 hV6 rc6
        refine occ_p3 l6 (by omega) hV6 rc6 fun w7 V7 l7 hV7 rc7 => ?_
        unfold s5_p2
        simp only [e_add]
        rw [inc i (by omega)]
        exact hB _ _ ⟨J6, rfl, l7.sub fun b q => by rw [q]; exact hV7 c hV6, g6, rc7⟩
      have hi1 : ((i : Nat) : Int) ≤ ((i + 1 : Nat) : Int) := by omega
      refine fdp (ld1_r (v := I op.1.kind) r5 rfl ?_)
      unfold s5_p10
      -- a request
      have p4 : s5_p4 (fun e W' => e = .bool true ∧ Below W.heap.size W W') B (P r 0) (P c 0) (P w4.heap.size 0) v (I (its.length : Nat)) (I (i : Nat)) w5 := by
        unfold s5_p4
        refine fdp (ld1_r (v := op.2) r5 rfl ?_)
        have hWz := l5.kp0.size
        rcases l5 with ⟨e5, σ5, z5, g5⟩ | z5
        · refine z5.send g5 (by omega) (hp.1.kp' z5.k) (fun b q => by omega) hp.2.1 fun w6 v6 b6 S6 z6 sl6 hb6 hk6 hS6 hW6 => ?_
          obtain ⟨gs, gj⟩ := hnd_keep (bs := op.1.bs) g4 g5 (by omega)
          exact fin w6 _ _ (.inl ⟨e5, _, z6, by have := gs; rw [show ((i : Nat) : Int) + 1 = ((i + 1 : Nat) : Int) by omega] at this; exact this⟩) (by have := gj; rw [show ((i : Nat) : Int) + 1 = ((i + 1 : Nat) : Int) by omega] at this; exact this) (.inl (.inl rfl)) (hk6.row rc5 (hS6 c (.inl rfl)))
        · refine z5.send fun w6 v6 hk6 => ?_
          exact fin w6 _ _ (.inr (z5.emp hk6)) (g4.mono hi1) (.inl rfl) (hk6.row' rc5)
      have p9t : s5_p9 (fun e W' => e = .bool true ∧ Below W.heap.size W W') B (P r 0) (P c 0) (P w4.heap.size 0) v (I (its.length : Nat)) (I (i : Nat)) (I op.1.kind) (.bool true) w5 := by
        unfold s5_p9
        exact sw_t p4
      have p9f : s5_p9 (fun e W' => e = .bool true ∧ Below W.heap.size W W') B (P r 0) (P c 0) (P w4.heap.size 0) v (I (its.length : Nat)) (I (i : Nat)) (I op.1.kind) (.bool false) w5 := by
        unfold s5_p9
        refine sw_f ?_
        unfold s5_p8
        cases hk1 : (op.1.kind == 1) with
        | true =>
          refine bo_yes hk1 ?_
          unfold s5_p7
          refine sw_t ?_
          unfold s5_p5 s5_p5_d
          have kd : Kp Emp w5 (drw w5) := kp_drw
          generalize drw w5 = w6 at kd ⊢
          have l6 := l5.gro (S := Emp) kd fun b q => q.elim
          have r6 := kd.row' r5
          have rc6 := kd.row' rc5
          have arm : ∃ (j : Nat) (x : Value), Row w6 r 47 [P j 0, x] ∧ cl Tryz.prog 32 #[P j 0, I op.1.after, I op.1.keep] (fun _ w => s5_p3 (fun e W' => e = .bool true ∧ Below W.heap.size W W') B (P r 0) (P c 0) v (I (its.length : Nat)) (I (i : Nat)) w) w6 := by
            rcases l6 with ⟨e6, σ6, z6, g6⟩ | z6
            · obtain ⟨j, hr, ha⟩ := Le.arm (a := op.1.after) (b := op.1.keep) (X := fun w => s5_p3 (fun e W' => e = .bool true ∧ Below W.heap.size W W') B (P r 0) (P c 0) v (I (its.length : Nat)) (I (i : Nat)) w) hp.2.2 z6 fun w7 z7 hk7 => fin w7 _ _ (.inl ⟨e6, σ6, z7, g6.mono hi1⟩) ((g4.arm _ _).mono hi1) (.inl (.inl rfl)) (hk7.row rc6 fun q => q (.inl (.inl rfl)))
              exact ⟨j, _, hr, ha⟩
            · obtain ⟨j, hr, ha⟩ := La.arm (a := op.1.after) (b := op.1.keep) (X := fun w => s5_p3 (fun e W' => e = .bool true ∧ Below W.heap.size W W') B (P r 0) (P c 0) v (I (its.length : Nat)) (I (i : Nat)) w) hp.2.2 z6 fun w7 z7 hk7 => fin w7 _ _ (.inr z7) ((g4.arm _ _).mono hi1) (.inl (.inl rfl)) (hk7.row rc6 fun q => q (.inl (.inl rfl)))
              exact ⟨j, _, hr, ha⟩
          obtain ⟨j, x, hr, ha⟩ := arm
          refine nk0 (fdp (ld1_r (v := P j 0) hr rfl ?_))
          refine fdp (ld1_r (v := I op.1.after) r6 rfl ?_)
          refine fdp (ld1_r (v := I op.1.keep) r6 rfl ?_)
          exact ha
        | false =>
          refine bo_no hk1 ?_
          unfold s5_p7
          refine sw_f ?_
          unfold s5_p6
          cases hk2 : (op.1.kind == 2) with
          | true =>
            simp only [e_eql, hk2, e_ift]
            refine ldn_r r5 (show 0 + 4 ≤ 4 by decide) ?_
            obtain ⟨x, z5⟩ := l5.la
            refine reopen_ok (p := op) z5 g4 (by omega) hp.1.scal hp.2.2 fun w6 v6 J6 g6 h6 hk6 => ?_
            refine fin w6 (fun b => b = c ∨ Nb w4 w5 b) J6 ?_ (g6.mono hi1) (.inl rfl) (hk6.row rc5 fun (q : ¬ (c = c ∨ Nb w4 w5 c)) => q (.inl rfl))
            rcases h6 with h6 | ⟨e6, σ6, h6, gs6⟩
            · exact .inr h6
            · exact .inl ⟨e6, σ6, h6, gs6.mono hi1⟩
          | false =>
            simp only [e_eql, hk2, e_iff]
            exact fin w5 _ J (l5.mono hi1) (g4.mono hi1) (.inl rfl) rc5
      cases hk0 : (op.1.kind == 0) with
      | true => exact bo_yes hk0 (sw_t p9t)
      | false =>
        refine bo_no hk0 (sw_f ?_)
        cases hk4 : (op.1.kind == 4) with
        | true => exact bo_yes hk4 p9t
        | false => exact bo_no hk4 p9f
    · rintro l w4 ⟨J, rfl, l4, g4, rc4⟩ B
      rw [s5_p13_Fe]
      unfold s5_p12
      simp only [dnlt, e_lss, e_iff]
      unfold s5_p1
      exact ⟨rfl, l4.kp0.below'⟩
end
end Go.Proofs.Qxb6500896aGreat
