import Derived.Test.Qxb6500896aGreatK18
import Derived.Test.Qxb6500896aGreatGe
namespace Go.Proofs.Qxb6500896aGreat
open Go.Sh Go.RowKit
set_option linter.unusedVariables false
set_option linter.unusedSimpArgs false

/-- an error of the engine, with its code -/
def Er (w : World) (v : Value) (code : Int) : Prop := ∃ eb s, v = .iface 155 (P eb 0) ∧ Row w eb 157 [I code, .string s]
def img (C : Cfg) (σ : Sg) : Img := ⟨fp C, σ.seq, σ.now, σ.rs, σ.ls⟩
section
variable {F M M' S : Nat → Prop} {w w' w1 : World} {v rv lv : Value} {l : List Value} {n wb e j : Nat} {lob : Option Nat} {C : Cfg} {ls : List (List Int)} {K : Value → World → Prop} {m : Me} {σ : Sg} {J : Jr} {code : Int} {log : List (List Int)}
theorem ex4_0 {a b c d : Value} : exq (.tuple #[a, b, c, d]) 0 K w = K a w := rfl
theorem ex4_1 {a b c d : Value} : exq (.tuple #[a, b, c, d]) 1 K w = K b w := rfl
theorem ex4_2 {a b c d : Value} : exq (.tuple #[a, b, c, d]) 2 K w = K c w := rfl
theorem ex4_3 {a b c d : Value} : exq (.tuple #[a, b, c, d]) 3 K w = K d w := rfl
theorem En.neE (h : En M w e m C σ J) {b : Nat} (hb : OwnT m.t m.rob b ∨ OwnL m.n m.wb m.lobs b ∨ OwnJ m.j m.lob b ∨ m.en = some b) : b ≠ e := by
  obtain ⟨va, vt, env, r, hc, hs, _⟩ := h.ex
  rcases hb with q | q | q | q
  · obtain ⟨cl, rv, r1, _, its, _, s1, _⟩ := h.tb.ex
    rcases q with q | q
    · rw [q]; exact row_ne r1 r (by decide)
    · obtain ⟨l, hl⟩ := s1.row q
      exact row_ne hl r (by decide)
  · obtain ⟨cl, its, r1, _, h1, h2, h3, h4, _⟩ := h.li.ex
    rcases q with q | q | q
    · rw [q]; exact row_ne r1 r (by decide)
    · rw [q]; exact row_ne h3 r (by decide)
    · rw [← h2] at q
      obtain ⟨p, hp, hb⟩ := List.mem_map.1 q
      obtain ⟨l, hl⟩ := (h4 p hp).1.row hb
      exact row_ne hl r (by decide)
  · obtain ⟨sv, lv, r1, _, evs, s1, _⟩ := h.jn.ex
    rcases q with q | q
    · rw [q]; exact row_ne r1 r (by decide)
    · obtain ⟨l, hl⟩ := s1.row q
      exact row_ne hl r (by decide)
  · obtain ⟨l, hl⟩ := hs.row q
    exact row_ne hl r (by decide)
/-- a store into the engine's own block -/
theorem En.st {o : Nat} {x : Value} {kk : World → Prop} (σ' : Sg) (h : En M w e m C σ J) (ho : o < 52) (hx : scal x = true) (hcells : ∀ va vt env, (C.cells va vt ++ σ.cells m env).set o x = C.cells va vt ++ σ'.cells m env) (hrs : σ'.rs = σ.rs) (hls : σ'.ls = σ.ls ∧ σ'.ent = σ.ent) (hrf : σ'.rf.length = 23)
    (hK : ∀ w', En M w' e m C σ' J → Kp (fun b => b = e) w w' → w'.heap.size = w.heap.size → kk w') : st1 (P e o) x kk w := by
  have hne := fun {b : Nat} => h.neE (b := b)
  obtain ⟨va, vt, env, r, hc, hs, hm⟩ := h.ex
  refine st1_r r (by have := h.rf; simp [Cfg.cells, Sg.cells]; omega) hx fun w1 r1 hk1 hz1 => ?_
  rw [hcells] at r1
  have hxs := Ext.same h.lt hk1
  have hS : ∀ b, b = e → b < w.heap.size → M b := fun b q _ => q ▸ h.me
  refine hK w1 ⟨⟨va, vt, env, r1, hc.ext hxs hk1 hS, by rw [hls.2]; exact hs.kp hk1 fun b q => hne (.inr (.inr (.inr q))), hm⟩, ?_, ?_, h.jn.ext hxs hk1 hS (fun b q => hne (.inr (.inr (.inl q)))), h.me, hrf⟩ hk1 hz1
  · rw [hrs]; exact h.tb.ext hxs hk1 hS (fun b q => hne (.inl q))
  · rw [hls.1]; exact h.li.ext hxs hk1 hS (fun b q => hne (.inr (.inl q)))
theorem codeOf_ok (h : Er w v code) (hK : K (I code) w) : cl Tryz.prog 51 #[v] K w := by
  obtain ⟨eb, s, rfl, r⟩ := h
  apply c51
  unfold s51_p1
  try simp only [e_fd, e_nck, e_pkt, e_pkf, e_gdtt, e_gdtf, e_gdft, e_gdff, e_ift, e_iff, e_not, e_ln, e_lnT, e_cp, e_cvi, e_ex20, e_ex21, e_ex30, e_ex31, e_ex32, e_add, e_sub, e_mul, e_quo, e_rem, e_and, e_or, e_xor, e_shl, e_shr, e_eql, e_neq, e_lss, e_leq, e_gtr, e_geq, e_beq, e_bne, e_peq1, e_peq2, e_pne1, e_pne2, e_zeq1, e_zeq2, e_zne1, e_zne2, e_feq1, e_fne1, e_feq2, e_fne2, e_seq, e_sne, e_ta1, e_ta2, Nat.zero_add, Nat.add_zero, Bool.not_true, Bool.not_false]
  refine ld1_r r rfl ?_
  exact hK
theorem codeOf_nil (hK : K (I 0) w) : cl Tryz.prog 51 #[.nilIface] K w := by
  apply c51
  unfold s51_p1
  try simp only [e_fd, e_nck, e_pkt, e_pkf, e_gdtt, e_gdtf, e_gdft, e_gdff, e_ift, e_iff, e_not, e_ln, e_lnT, e_cp, e_cvi, e_ex20, e_ex21, e_ex30, e_ex31, e_ex32, e_add, e_sub, e_mul, e_quo, e_rem, e_and, e_or, e_xor, e_shl, e_shr, e_eql, e_neq, e_lss, e_leq, e_gtr, e_geq, e_beq, e_bne, e_peq1, e_peq2, e_pne1, e_pne2, e_zeq1, e_zeq2, e_zne1, e_zne2, e_feq1, e_fne1, e_feq2, e_fne2, e_seq, e_sne, e_ta1, e_ta2, Nat.zero_add, Nat.add_zero, Bool.not_true, Bool.not_false]
  exact hK
theorem now_ok (h : En M w e m C σ J) (hK : K (I σ.now) w) : cl Tryz.prog 27 #[P e 0] K w := by
  obtain ⟨va, vt, env, r, _⟩ := h.ex
  apply c27
  unfold s27_p1
  try simp only [e_fd, e_nck, e_pkt, e_pkf, e_gdtt, e_gdtf, e_gdft, e_gdff, e_ift, e_iff, e_not, e_ln, e_lnT, e_cp, e_cvi, e_ex20, e_ex21, e_ex30, e_ex31, e_ex32, e_add, e_sub, e_mul, e_quo, e_rem, e_and, e_or, e_xor, e_shl, e_shr, e_eql, e_neq, e_lss, e_leq, e_gtr, e_geq, e_beq, e_bne, e_peq1, e_peq2, e_pne1, e_pne2, e_zeq1, e_zeq2, e_zne1, e_zne2, e_feq1, e_fne1, e_feq2, e_fne2, e_seq, e_sne, e_ta1, e_ta2, Nat.zero_add, Nat.add_zero, Bool.not_true, Bool.not_false]
  exact ld1_r r rfl hK
theorem audit_ok (h : En M w e m C σ J) (cv : CV C) (hN : ImN (img C σ)) (hal : σ.ls.length = C.ats.length)
    (hK : ∀ w', Kp Emp w w' → K (.bool (chkImg C (img C σ))) w') : cl Tryz.prog 36 #[P e 0] K w := by
  obtain ⟨va, vt, env, r, hc, _⟩ := h.ex
  apply c36
  unfold s36_p3 s36_p2 s36_p2_d
  have kd : Kp Emp w (drw w) := kp_drw
  generalize drw w = w1 at kd ⊢
  have r1 := kd.row' r
  try simp only [e_fd, e_nck, e_pkt, e_pkf, e_gdtt, e_gdtf, e_gdft, e_gdff, e_ift, e_iff, e_not, e_ln, e_lnT, e_cp, e_cvi, e_ex20, e_ex21, e_ex30, e_ex31, e_ex32, e_add, e_sub, e_mul, e_quo, e_rem, e_and, e_or, e_xor, e_shl, e_shr, e_eql, e_neq, e_lss, e_leq, e_gtr, e_geq, e_beq, e_bne, e_peq1, e_peq2, e_pne1, e_pne2, e_zeq1, e_zeq2, e_zne1, e_zne2, e_feq1, e_fne1, e_feq2, e_fne2, e_seq, e_sne, e_ta1, e_ta2, Nat.zero_add, Nat.add_zero, Bool.not_true, Bool.not_false]
  refine ldn_r r1 (show 0 + 14 ≤ _ by simp [Cfg.cells, Sg.cells]) ?_
  have e14 : ((C.cells va vt ++ σ.cells m env).drop 0).take 14 = C.cells va vt := by rw [List.drop_zero]; rfl
  rw [e14]
  have hll : ∀ r ∈ σ.rs, r.legs.length ≤ 1000000 := fun r hr => by have := (hN.rs r hr).ll; omega
  refine image_ok (h.kp' kd) cv.cok hll hal fun w2 rv lv hk2 hri hrw => ⟨hk2.below', ?_⟩
  have k2 := kd.trans hk2
  have hc2 : Cg (Im M w2) w2 (C.cells va vt) C := hc.ext (Ext.same h.lt k2) k2 (fun _ q => q.elim)
  refine checkImage_ok (im := img C σ) hc2 cv hri hrw hN fun w3 hk3 => ?_
  unfold s36_p1
  exact hK w3 (k2.trans hk3)
/-- the entries of a log that is only read -/
def Lr (M : Nat → Prop) (w : World) (lv : Value) (log : List (List Int)) : Prop :=
  ∃ evs, Ai one 1 M w lv evs ∧ evs.length = log.length ∧ ∀ i (h1 : i < evs.length) (h2 : i < log.length), Ai bC 1 M w evs[i] log[i]
theorem recover_ok (h : Jn M w j lob J)
    (hK : (J.off = true → K (.tuple #[nilS, .bool false, nilS, I 19]) w) ∧
      (J.off = false → J.left = 1 → ∀ w', Jn M w' j lob (failJ (dueJ J) J.keep) → Kp (fun b => b = j) w w' → K (.tuple #[nilS, .bool false, nilS, I 19]) w') ∧
      (J.off = false → J.left ≠ 1 → ∀ w' sv lv, Jn M w' j lob (dueJ J) → Kp (fun b => b = j) w w' → Ai bC 1 M w' sv J.snap → Lr M w' lv J.log → K (.tuple #[sv, .bool J.has, lv, I 0]) w')) : cl Tryz.prog 120 #[P j 0] K w := by
  obtain ⟨hK1, hK2, hK3⟩ := hK
  have hln := h.ok.len
  obtain ⟨sv, lv, r, hs, hl⟩ := h.ex
  apply c120
  unfold s120_p3
  try simp only [e_fd, e_nck, e_pkt, e_pkf, e_gdtt, e_gdtf, e_gdft, e_gdff, e_ift, e_iff, e_not, e_ln, e_lnT, e_cp, e_cvi, e_ex20, e_ex21, e_ex30, e_ex31, e_ex32, e_add, e_sub, e_mul, e_quo, e_rem, e_and, e_or, e_xor, e_shl, e_shr, e_eql, e_neq, e_lss, e_leq, e_gtr, e_geq, e_beq, e_bne, e_peq1, e_peq2, e_pne1, e_pne2, e_zeq1, e_zeq2, e_zne1, e_zne2, e_feq1, e_fne1, e_feq2, e_fne2, e_seq, e_sne, e_ta1, e_ta2, Nat.zero_add, Nat.add_zero, Bool.not_true, Bool.not_false]
  refine ld1_r r rfl ?_
  cases ho : J.off with
  | true =>
    try simp only [e_fd, e_nck, e_pkt, e_pkf, e_gdtt, e_gdtf, e_gdft, e_gdff, e_ift, e_iff, e_not, e_ln, e_lnT, e_cp, e_cvi, e_ex20, e_ex21, e_ex30, e_ex31, e_ex32, e_add, e_sub, e_mul, e_quo, e_rem, e_and, e_or, e_xor, e_shl, e_shr, e_eql, e_neq, e_lss, e_leq, e_gtr, e_geq, e_beq, e_bne, e_peq1, e_peq2, e_pne1, e_pne2, e_zeq1, e_zeq2, e_zne1, e_zne2, e_feq1, e_fne1, e_feq2, e_fne2, e_seq, e_sne, e_ta1, e_ta2, Nat.zero_add, Nat.add_zero, Bool.not_true, Bool.not_false]
    exact hK1 ho
  | false =>
    try simp only [e_fd, e_nck, e_pkt, e_pkf, e_gdtt, e_gdtf, e_gdft, e_gdff, e_ift, e_iff, e_not, e_ln, e_lnT, e_cp, e_cvi, e_ex20, e_ex21, e_ex30, e_ex31, e_ex32, e_add, e_sub, e_mul, e_quo, e_rem, e_and, e_or, e_xor, e_shl, e_shr, e_eql, e_neq, e_lss, e_leq, e_gtr, e_geq, e_beq, e_bne, e_peq1, e_peq2, e_pne1, e_pne2, e_zeq1, e_zeq2, e_zne1, e_zne2, e_feq1, e_fne1, e_feq2, e_fne2, e_seq, e_sne, e_ta1, e_ta2, Nat.zero_add, Nat.add_zero, Bool.not_true, Bool.not_false]
    refine due_ok h fun w1 h1 hk1 hz1 => ?_
    by_cases hl1 : J.left = 1
    · rw [decide_eq_true hl1]
      try simp only [e_fd, e_nck, e_pkt, e_pkf, e_gdtt, e_gdtf, e_gdft, e_gdff, e_ift, e_iff, e_not, e_ln, e_lnT, e_cp, e_cvi, e_ex20, e_ex21, e_ex30, e_ex31, e_ex32, e_add, e_sub, e_mul, e_quo, e_rem, e_and, e_or, e_xor, e_shl, e_shr, e_eql, e_neq, e_lss, e_leq, e_gtr, e_geq, e_beq, e_bne, e_peq1, e_peq2, e_pne1, e_pne2, e_zeq1, e_zeq2, e_zne1, e_zne2, e_feq1, e_fne1, e_feq2, e_fne2, e_seq, e_sne, e_ta1, e_ta2, Nat.zero_add, Nat.add_zero, Bool.not_true, Bool.not_false]
      obtain ⟨sv1, lv1, r1, _⟩ := h1.ex
      refine ld1_r r1 rfl ?_
      refine fail_ok h1 fun w2 h2 hk2 hz2 => ?_
      exact hK2 ho hl1 w2 h2 (hk1.trans hk2)
    · rw [decide_eq_false hl1]
      try simp only [e_fd, e_nck, e_pkt, e_pkf, e_gdtt, e_gdtf, e_gdft, e_gdff, e_ift, e_iff, e_not, e_ln, e_lnT, e_cp, e_cvi, e_ex20, e_ex21, e_ex30, e_ex31, e_ex32, e_add, e_sub, e_mul, e_quo, e_rem, e_and, e_or, e_xor, e_shl, e_shr, e_eql, e_neq, e_lss, e_leq, e_gtr, e_geq, e_beq, e_bne, e_peq1, e_peq2, e_pne1, e_pne2, e_zeq1, e_zeq2, e_zne1, e_zne2, e_feq1, e_fne1, e_feq2, e_fne2, e_seq, e_sne, e_ta1, e_ta2, Nat.zero_add, Nat.add_zero, Bool.not_true, Bool.not_false]
      refine clone_ok h1 fun w2 M2 j2 lob2 hx2 hk2 ho2 h2 => ?_
      unfold s120_p2 s120_p2_d
      have kd : Kp Emp w2 (drw w2) := kp_drw
      generalize drw w2 = w3 at kd ⊢
      have h3 := h2.kp' kd
      obtain ⟨sv3, lv3, r3, hs3, evs, e1, e2, e3, e4⟩ := h3.ex
      try simp only [e_fd, e_nck, e_pkt, e_pkf, e_gdtt, e_gdtf, e_gdft, e_gdff, e_ift, e_iff, e_not, e_ln, e_lnT, e_cp, e_cvi, e_ex20, e_ex21, e_ex30, e_ex31, e_ex32, e_add, e_sub, e_mul, e_quo, e_rem, e_and, e_or, e_xor, e_shl, e_shr, e_eql, e_neq, e_lss, e_leq, e_gtr, e_geq, e_beq, e_bne, e_peq1, e_peq2, e_pne1, e_pne2, e_zeq1, e_zeq2, e_zne1, e_zne2, e_feq1, e_fne1, e_feq2, e_fne2, e_seq, e_sne, e_ta1, e_ta2, Nat.zero_add, Nat.add_zero, Bool.not_true, Bool.not_false]
      refine ld1_r r3 rfl ?_
      try simp only [e_fd, e_nck, e_pkt, e_pkf, e_gdtt, e_gdtf, e_gdft, e_gdff, e_ift, e_iff, e_not, e_ln, e_lnT, e_cp, e_cvi, e_ex20, e_ex21, e_ex30, e_ex31, e_ex32, e_add, e_sub, e_mul, e_quo, e_rem, e_and, e_or, e_xor, e_shl, e_shr, e_eql, e_neq, e_lss, e_leq, e_gtr, e_geq, e_beq, e_bne, e_peq1, e_peq2, e_pne1, e_pne2, e_zeq1, e_zeq2, e_zne1, e_zne2, e_feq1, e_fne1, e_feq2, e_fne2, e_seq, e_sne, e_ta1, e_ta2, Nat.zero_add, Nat.add_zero, Bool.not_true, Bool.not_false]
      refine ld1_r r3 rfl ?_
      try simp only [e_fd, e_nck, e_pkt, e_pkf, e_gdtt, e_gdtf, e_gdft, e_gdff, e_ift, e_iff, e_not, e_ln, e_lnT, e_cp, e_cvi, e_ex20, e_ex21, e_ex30, e_ex31, e_ex32, e_add, e_sub, e_mul, e_quo, e_rem, e_and, e_or, e_xor, e_shl, e_shr, e_eql, e_neq, e_lss, e_leq, e_gtr, e_geq, e_beq, e_bne, e_peq1, e_peq2, e_pne1, e_pne2, e_zeq1, e_zeq2, e_zne1, e_zne2, e_feq1, e_fne1, e_feq2, e_fne2, e_seq, e_sne, e_ta1, e_ta2, Nat.zero_add, Nat.add_zero, Bool.not_true, Bool.not_false]
      refine ld1_r r3 rfl ?_
      unfold s120_p1
      have k3 : Kp (fun b => b = j) w w3 := (hk1.trans hk2.none).trans kd.none
      have down : ∀ b, Im M2 w3 b → Im M w3 b := fun b q => ⟨fun q2 => q.1 (hx2.sub b q2), q.2⟩
      refine hK3 ho hl1 w3 sv3 lv3 ((h1.kp' hk2).kp' kd) k3 (hs3.mono down) ⟨evs, e1.ar one_len (by have : evs.length = J.log.length := e3; omega) (fun b e => ?_), e3, fun i a b => (e4 i a b).mono down⟩
      subst e
      refine ⟨fun q => ?_, e1.lt⟩
      have := h1.lt b q
      have := ho2 b (.inr rfl)
      omega
theorem afterWrite_lt (h : En M w e m C σ J) (ht : σ.tail < C.se) (hK : ∀ w', Kp Emp w w' → K (I 0) w') : cl Tryz.prog 125 #[P e 0] K w := by
  obtain ⟨va, vt, env, r, _⟩ := h.ex
  apply c125
  unfold s125_p3 s125_p2 s125_p2_d
  have kd : Kp Emp w (drw w) := kp_drw
  generalize drw w = w1 at kd ⊢
  have r1 := kd.row' r
  try simp only [e_fd, e_nck, e_pkt, e_pkf, e_gdtt, e_gdtf, e_gdft, e_gdff, e_ift, e_iff, e_not, e_ln, e_lnT, e_cp, e_cvi, e_ex20, e_ex21, e_ex30, e_ex31, e_ex32, e_add, e_sub, e_mul, e_quo, e_rem, e_and, e_or, e_xor, e_shl, e_shr, e_eql, e_neq, e_lss, e_leq, e_gtr, e_geq, e_beq, e_bne, e_peq1, e_peq2, e_pne1, e_pne2, e_zeq1, e_zeq2, e_zne1, e_zne2, e_feq1, e_fne1, e_feq2, e_fne2, e_seq, e_sne, e_ta1, e_ta2, Nat.zero_add, Nat.add_zero, Bool.not_true, Bool.not_false]
  refine ld1_r r1 rfl ?_
  try simp only [e_fd, e_nck, e_pkt, e_pkf, e_gdtt, e_gdtf, e_gdft, e_gdff, e_ift, e_iff, e_not, e_ln, e_lnT, e_cp, e_cvi, e_ex20, e_ex21, e_ex30, e_ex31, e_ex32, e_add, e_sub, e_mul, e_quo, e_rem, e_and, e_or, e_xor, e_shl, e_shr, e_eql, e_neq, e_lss, e_leq, e_gtr, e_geq, e_beq, e_bne, e_peq1, e_peq2, e_pne1, e_pne2, e_zeq1, e_zeq2, e_zne1, e_zne2, e_feq1, e_fne1, e_feq2, e_fne2, e_seq, e_sne, e_ta1, e_ta2, Nat.zero_add, Nat.add_zero, Bool.not_true, Bool.not_false]
  refine ld1_r r1 rfl ?_
  try simp only [e_fd, e_nck, e_pkt, e_pkf, e_gdtt, e_gdtf, e_gdft, e_gdff, e_ift, e_iff, e_not, e_ln, e_lnT, e_cp, e_cvi, e_ex20, e_ex21, e_ex30, e_ex31, e_ex32, e_add, e_sub, e_mul, e_quo, e_rem, e_and, e_or, e_xor, e_shl, e_shr, e_eql, e_neq, e_lss, e_leq, e_gtr, e_geq, e_beq, e_bne, e_peq1, e_peq2, e_pne1, e_pne2, e_zeq1, e_zeq2, e_zne1, e_zne2, e_feq1, e_fne1, e_feq2, e_fne2, e_seq, e_sne, e_ta1, e_ta2, Nat.zero_add, Nat.add_zero, Bool.not_true, Bool.not_false]
  unfold s125_p1
  simp only [ht, decide_true, e_fd, e_nck, e_pkt, e_pkf, e_gdtt, e_gdtf, e_gdft, e_gdff, e_ift, e_iff, e_not, e_ln, e_lnT, e_cp, e_cvi, e_ex20, e_ex21, e_ex30, e_ex31, e_ex32, e_add, e_sub, e_mul, e_quo, e_rem, e_and, e_or, e_xor, e_shl, e_shr, e_eql, e_neq, e_lss, e_leq, e_gtr, e_geq, e_beq, e_bne, e_peq1, e_peq2, e_pne1, e_pne2, e_zeq1, e_zeq2, e_zne1, e_zne2, e_feq1, e_fne1, e_feq2, e_fne2, e_seq, e_sne, e_ta1, e_ta2, Nat.zero_add, Nat.add_zero, Bool.not_true, Bool.not_false]
  exact hK w1 kd
/-- no engine for this configuration -/
theorem open_bad (hc : Cg F w l C) (hh : small C.hz) (hv : vCfg C = false) (hK : ∀ w' ev, Kp Emp w w' → Er w' ev 21 → K (.tuple #[.pointer none, ev]) w') : cl Tryz.prog 38 #[.agg l.toArray, P j 0] K w := by
  have hcl := hc.len
  apply c38
  unfold s38_p5
  refine nw_r fun w1 r1 hk1 hz1 => ?_
  replace r1 : Row w1 w.heap.size 34 l := r1
  try simp only [e_fd, e_nck, e_pkt, e_pkf, e_gdtt, e_gdtf, e_gdft, e_gdff, e_ift, e_iff, e_not, e_ln, e_lnT, e_cp, e_cvi, e_ex20, e_ex21, e_ex30, e_ex31, e_ex32, e_add, e_sub, e_mul, e_quo, e_rem, e_and, e_or, e_xor, e_shl, e_shr, e_eql, e_neq, e_lss, e_leq, e_gtr, e_geq, e_beq, e_bne, e_peq1, e_peq2, e_pne1, e_pne2, e_zeq1, e_zeq2, e_zne1, e_zne2, e_feq1, e_fne1, e_feq2, e_fne2, e_seq, e_sne, e_ta1, e_ta2, Nat.zero_add, Nat.add_zero, Bool.not_true, Bool.not_false]
  refine ldn_r r1 (by omega) ?_
  have el : (l.drop 0).take 14 = l := by rw [List.drop_zero, List.take_of_length_le (by omega)]
  rw [el]
  refine validConfig_ok (hc.kp' hk1) hh fun w2 hk2 => ?_
  rw [hv]
  simp only [Bool.not_false, e_fd, e_nck, e_pkt, e_pkf, e_gdtt, e_gdtf, e_gdft, e_gdff, e_ift, e_iff, e_not, e_ln, e_lnT, e_cp, e_cvi, e_ex20, e_ex21, e_ex30, e_ex31, e_ex32, e_add, e_sub, e_mul, e_quo, e_rem, e_and, e_or, e_xor, e_shl, e_shr, e_eql, e_neq, e_lss, e_leq, e_gtr, e_geq, e_beq, e_bne, e_peq1, e_peq2, e_pne1, e_pne2, e_zeq1, e_zeq2, e_zne1, e_zne2, e_feq1, e_fne1, e_feq2, e_fne2, e_seq, e_sne, e_ta1, e_ta2, Nat.zero_add, Nat.add_zero, Bool.not_true, Bool.not_false]
  refine bdq_r (l := [I 21, .string ⟨#[111, 112, 101, 110]⟩]) rfl ?_
  refine nw_r fun w3 r3 hk3 hz3 => ?_
  exact hK w3 _ ((hk1.trans hk2).trans hk3) ⟨_, _, rfl, r3⟩
theorem open_nil (hK : ∀ w' ev, Kp Emp w w' → Er w' ev 21 → K (.tuple #[.pointer none, ev]) w') : cl Tryz.prog 38 #[.agg l.toArray, .pointer none] K w := by
  apply c38
  unfold s38_p5
  refine nw_r fun w1 r1 hk1 hz1 => ?_
  try simp only [e_fd, e_nck, e_pkt, e_pkf, e_gdtt, e_gdtf, e_gdft, e_gdff, e_ift, e_iff, e_not, e_ln, e_lnT, e_cp, e_cvi, e_ex20, e_ex21, e_ex30, e_ex31, e_ex32, e_add, e_sub, e_mul, e_quo, e_rem, e_and, e_or, e_xor, e_shl, e_shr, e_eql, e_neq, e_lss, e_leq, e_gtr, e_geq, e_beq, e_bne, e_peq1, e_peq2, e_pne1, e_pne2, e_zeq1, e_zeq2, e_zne1, e_zne2, e_feq1, e_fne1, e_feq2, e_fne2, e_seq, e_sne, e_ta1, e_ta2, Nat.zero_add, Nat.add_zero, Bool.not_true, Bool.not_false]
  refine bdq_r (l := [I 21, .string ⟨#[111, 112, 101, 110]⟩]) rfl ?_
  refine nw_r fun w3 r3 hk3 hz3 => ?_
  exact hK w3 _ (hk1.trans hk3) ⟨_, _, rfl, r3⟩
/-- an engine on an empty journal -/
theorem open_new (hc : Cg F w l C) (hv : vCfg C = true) (hj : Jn M w j lob J) (h1 : J.off = false) (h2 : J.left = 0) (h3 : J.has = false) (h4 : J.log = []) (hjF : ∀ b, F b → b ≠ j)
    (hK : ∀ w' M' e m, Ext M M' w w' → Kp (fun b => b = j) w w' → m.j = j → m.lob = lob → (∀ b, OwnE e m b → OwnJ j lob b ∨ w.heap.size ≤ b) → En M' w' e m C (sg0 C) J → K (.tuple #[P e 0, .nilIface]) w') : cl Tryz.prog 38 #[.agg l.toArray, P j 0] K w := by
  have cv := cv_of hv
  have hcl := hc.len
  have eJ : dueJ J = J := by unfold dueJ; rw [if_pos h2, ← h2]
  apply c38
  unfold s38_p5
  refine nw_r fun w1 r1 hk1 hz1 => ?_
  replace r1 : Row w1 w.heap.size 34 l := r1
  try simp only [e_fd, e_nck, e_pkt, e_pkf, e_gdtt, e_gdtf, e_gdft, e_gdff, e_ift, e_iff, e_not, e_ln, e_lnT, e_cp, e_cvi, e_ex20, e_ex21, e_ex30, e_ex31, e_ex32, e_add, e_sub, e_mul, e_quo, e_rem, e_and, e_or, e_xor, e_shl, e_shr, e_eql, e_neq, e_lss, e_leq, e_gtr, e_geq, e_beq, e_bne, e_peq1, e_peq2, e_pne1, e_pne2, e_zeq1, e_zeq2, e_zne1, e_zne2, e_feq1, e_fne1, e_feq2, e_fne2, e_seq, e_sne, e_ta1, e_ta2, Nat.zero_add, Nat.add_zero, Bool.not_true, Bool.not_false]
  refine ldn_r r1 (by omega) ?_
  have el : (l.drop 0).take 14 = l := by rw [List.drop_zero, List.take_of_length_le (by omega)]
  rw [el]
  refine validConfig_ok (hc.kp' hk1) ⟨by have := cv.hz; omega, by have := cv.hz; omega⟩ fun w2 hk2 => ?_
  rw [hv]
  simp only [Bool.not_true, e_fd, e_nck, e_pkt, e_pkf, e_gdtt, e_gdtf, e_gdft, e_gdff, e_ift, e_iff, e_not, e_ln, e_lnT, e_cp, e_cvi, e_ex20, e_ex21, e_ex30, e_ex31, e_ex32, e_add, e_sub, e_mul, e_quo, e_rem, e_and, e_or, e_xor, e_shl, e_shr, e_eql, e_neq, e_lss, e_leq, e_gtr, e_geq, e_beq, e_bne, e_peq1, e_peq2, e_pne1, e_pne2, e_zeq1, e_zeq2, e_zne1, e_zne2, e_feq1, e_fne1, e_feq2, e_fne2, e_seq, e_sne, e_ta1, e_ta2, Nat.zero_add, Nat.add_zero, Bool.not_true, Bool.not_false]
  have k2 := hk1.trans hk2
  refine recover_ok (hj.kp' k2) ⟨(fun q => by rw [h1] at q; cases q), (fun _ q => by omega), fun _ _ w3 sv lv hj3 hk3 hsv hlv => ?_⟩
  rw [eJ] at hj3
  have jlt := hj.lt j hj.mj
  have k3 : Kp (fun b => b = j) w w3 := k2.none.trans hk3
  have r3 := hk3.row (hk2.row' r1) (show ¬ w.heap.size = j by omega)
  rw [h4] at hlv
  have e0 : ((0 : Int) != 0) = false := rfl
  simp only [h3, ex4_0, ex4_1, ex4_2, ex4_3, e0, e_fd, e_nck, e_pkt, e_pkf, e_gdtt, e_gdtf, e_gdft, e_gdff, e_ift, e_iff, e_not, e_ln, e_lnT, e_cp, e_cvi, e_ex20, e_ex21, e_ex30, e_ex31, e_ex32, e_add, e_sub, e_mul, e_quo, e_rem, e_and, e_or, e_xor, e_shl, e_shr, e_eql, e_neq, e_lss, e_leq, e_gtr, e_geq, e_beq, e_bne, e_peq1, e_peq2, e_pne1, e_pne2, e_zeq1, e_zeq2, e_zne1, e_zne2, e_feq1, e_fne1, e_feq2, e_fne2, e_seq, e_sne, e_ta1, e_ta2, Nat.zero_add, Nat.add_zero, Bool.not_true, Bool.not_false]
  refine ldn_r r3 (by omega) ?_
  rw [el]
  refine blank_ok ((hc.kp' k2).kp hk3 hjF) cv.cok hj3 fun w4 M4 e m hx4 hk4 hmj hml hown he4 => ?_
  try simp only [e_fd, e_nck, e_pkt, e_pkf, e_gdtt, e_gdtf, e_gdft, e_gdff, e_ift, e_iff, e_not, e_ln, e_lnT, e_cp, e_cvi, e_ex20, e_ex21, e_ex30, e_ex31, e_ex32, e_add, e_sub, e_mul, e_quo, e_rem, e_and, e_or, e_xor, e_shl, e_shr, e_eql, e_neq, e_lss, e_leq, e_gtr, e_geq, e_beq, e_bne, e_peq1, e_peq2, e_pne1, e_pne2, e_zeq1, e_zeq2, e_zne1, e_zne2, e_feq1, e_fne1, e_feq2, e_fne2, e_seq, e_sne, e_ta1, e_ta2, Nat.zero_add, Nat.add_zero, Bool.not_true, Bool.not_false]
  obtain ⟨evs, v1, v2, v3⟩ := hlv
  have hev : evs = [] := List.eq_nil_of_length_eq_zero v2
  subst hev
  unfold s38_p4
  refine v1.ln ?_
  unfold s38_p3
  refine loop_n 0 (fun i l w' => w' = w4 ∧ i = 0 ∧ l = [lv, P e 0, lv, I 0, I 0]) ⟨rfl, rfl, rfl⟩ (fun i l w hi => by omega) ?_
  rintro l' w5 ⟨rfl, _, rfl⟩ B
  rw [s38_p3_Fe]
  unfold s38_p2
  have e1 : ¬ (0 : Int) < 0 := by decide
  simp only [e1, decide_false, e_fd, e_nck, e_pkt, e_pkf, e_gdtt, e_gdtf, e_gdft, e_gdff, e_ift, e_iff, e_not, e_ln, e_lnT, e_cp, e_cvi, e_ex20, e_ex21, e_ex30, e_ex31, e_ex32, e_add, e_sub, e_mul, e_quo, e_rem, e_and, e_or, e_xor, e_shl, e_shr, e_eql, e_neq, e_lss, e_leq, e_gtr, e_geq, e_beq, e_bne, e_peq1, e_peq2, e_pne1, e_pne2, e_zeq1, e_zeq2, e_zne1, e_zne2, e_feq1, e_fne1, e_feq2, e_fne2, e_seq, e_sne, e_ta1, e_ta2, Nat.zero_add, Nat.add_zero, Bool.not_true, Bool.not_false]
  unfold s38_p1
  refine v1.ln ?_
  try simp only [e_fd, e_nck, e_pkt, e_pkf, e_gdtt, e_gdtf, e_gdft, e_gdff, e_ift, e_iff, e_not, e_ln, e_lnT, e_cp, e_cvi, e_ex20, e_ex21, e_ex30, e_ex31, e_ex32, e_add, e_sub, e_mul, e_quo, e_rem, e_and, e_or, e_xor, e_shl, e_shr, e_eql, e_neq, e_lss, e_leq, e_gtr, e_geq, e_beq, e_bne, e_peq1, e_peq2, e_pne1, e_pne2, e_zeq1, e_zeq2, e_zne1, e_zne2, e_feq1, e_fne1, e_feq2, e_fne2, e_seq, e_sne, e_ta1, e_ta2, Nat.zero_add, Nat.add_zero, Bool.not_true, Bool.not_false]
  refine he4.st (sg0 C) (by decide) rfl (fun va vt env => rfl) rfl ⟨rfl, rfl⟩ rfl fun w6 he6 hk6 hz6 => ?_
  refine afterWrite_lt he6 (by show (0 : Int) < C.se; have := cv.se; omega) fun w7 hk7 => ?_
  simp only [e0, e_fd, e_nck, e_pkt, e_pkf, e_gdtt, e_gdtf, e_gdft, e_gdff, e_ift, e_iff, e_not, e_ln, e_lnT, e_cp, e_cvi, e_ex20, e_ex21, e_ex30, e_ex31, e_ex32, e_add, e_sub, e_mul, e_quo, e_rem, e_and, e_or, e_xor, e_shl, e_shr, e_eql, e_neq, e_lss, e_leq, e_gtr, e_geq, e_beq, e_bne, e_peq1, e_peq2, e_pne1, e_pne2, e_zeq1, e_zeq2, e_zne1, e_zne2, e_feq1, e_fne1, e_feq2, e_fne2, e_seq, e_sne, e_ta1, e_ta2, Nat.zero_add, Nat.add_zero, Bool.not_true, Bool.not_false]
  have sz3 := k3.size
  have hxx : Ext M M4 w w7 := (((Ext.same hj.lt k3).trans hx4).trans (Ext.same he4.lt hk6)).trans (Ext.same he6.lt hk7)
  have helt : w3.heap.size ≤ e := by
    rcases hown e (.inl rfl) with q | q
    · exfalso
      have := he4.neE (b := e) (.inr (.inr (.inl (by rw [hmj, hml]; exact q))))
      exact this rfl
    · exact q
  refine hK w7 M4 e m hxx (((k3.trans hk4.none).then hk6 (fun k hk (q : k = e) => by omega)).trans hk7.none) hmj hml (fun b q => ?_) (he6.kp' hk7)
  rcases hown b q with q | q
  · exact .inl q
  · exact .inr (by omega)
end
end Go.Proofs.Qxb6500896aGreat
