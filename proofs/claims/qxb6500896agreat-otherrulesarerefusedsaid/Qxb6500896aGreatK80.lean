import Derived.Test.Qxb6500896aGreatK78
import Derived.Test.Qxb6500896aGreatN11
import Derived.Test.Qxb6500896aGreatK76
import Derived.Test.Qxb6500896aGreatGo
namespace Go.Proofs.Qxb6500896aGreat
open Go.Sh Go.RowKit
set_option linter.unusedVariables false
set_option linter.unusedSimpArgs false

section
variable {W w w' w1 w2 : World} {V F M M2 : Nat → Prop} {r e j n e2 : Nat} {σ σ2 : Sg} {J J2 : Jr} {K : Value → World → Prop} {v : Value} {lob : Option Nat} {xs : List Op} {m m2 : Me} {C C2 : Cfg}
/-- a snapshot on demand -/
theorem Lz.chk (z : Lz W V w r e σ J) (hl : Jlm 48 72 1200 J) (hK : ∀ w', Lz W V w' r e (snS σ) (snJ park σ J) → K .nilIface w') : cl Tryz.prog 60 #[P e 0] K w := by
  obtain ⟨M, m, h, hr, hM, hV⟩ := z.ex
  obtain ⟨va, vt, env, re, _⟩ := h.ex
  apply c60
  unfold s60_p1
  have hd := z.i.dn
  try simp only [e_fd, e_nck, e_pkt, e_pkf, e_gdtt, e_gdtf, e_gdft, e_gdff, e_ift, e_iff, e_not, e_ln, e_lnT, e_cp, e_cvi, e_ex20, e_ex21, e_ex30, e_ex31, e_ex32, e_add, e_sub, e_mul, e_quo, e_rem, e_and, e_or, e_xor, e_shl, e_shr, e_eql, e_neq, e_lss, e_leq, e_gtr, e_geq, e_beq, e_bne, e_peq1, e_peq2, e_pne1, e_pne2, e_zeq1, e_zeq2, e_zne1, e_zne2, e_feq1, e_fne1, e_feq2, e_fne2, e_seq, e_sne, e_ta1, e_ta2, Nat.zero_add, Nat.add_zero, Bool.not_true, Bool.not_false]
  refine ld1_r (v := .bool σ.down) re rfl ?_
  rw [hd]
  try simp only [e_fd, e_nck, e_pkt, e_pkf, e_gdtt, e_gdtf, e_gdft, e_gdff, e_ift, e_iff, e_not, e_ln, e_lnT, e_cp, e_cvi, e_ex20, e_ex21, e_ex30, e_ex31, e_ex32, e_add, e_sub, e_mul, e_quo, e_rem, e_and, e_or, e_xor, e_shl, e_shr, e_eql, e_neq, e_lss, e_leq, e_gtr, e_geq, e_beq, e_bne, e_peq1, e_peq2, e_pne1, e_pne2, e_zeq1, e_zeq2, e_zne1, e_zne2, e_feq1, e_fne1, e_feq2, e_fne2, e_seq, e_sne, e_ta1, e_ta2, Nat.zero_add, Nat.add_zero, Bool.not_true, Bool.not_false]
  have e0 : snapS park σ J = (snS σ, snJ park σ J, 0) := by
    rcases snapS0 z.i with ⟨_, q⟩ | q
    · exfalso
      have := encImg_1 z.i.g
      rw [hl.ms] at q
      omega
    · exact q
  refine snapE_ok park_cv (by decide) z.i.g h fun w1 M1 m1 hx1 hk1 hj1 ho1 h1 => ?_
  rw [e0] at h1 ⊢
  try simp only [e_fd, e_nck, e_pkt, e_pkf, e_gdtt, e_gdtf, e_gdft, e_gdff, e_ift, e_iff, e_not, e_ln, e_lnT, e_cp, e_cvi, e_ex20, e_ex21, e_ex30, e_ex31, e_ex32, e_add, e_sub, e_mul, e_quo, e_rem, e_and, e_or, e_xor, e_shl, e_shr, e_eql, e_neq, e_lss, e_leq, e_gtr, e_geq, e_beq, e_bne, e_peq1, e_peq2, e_pne1, e_pne2, e_zeq1, e_zeq2, e_zne1, e_zne2, e_feq1, e_fne1, e_feq2, e_fne2, e_seq, e_sne, e_ta1, e_ta2, Nat.zero_add, Nat.add_zero, Bool.not_true, Bool.not_false]
  refine hK w1 ⟨⟨M1, m1, h1, ?_, fun b q => ?_, fun c q => ?_⟩, z.k.then hk1 fun b hb q => ?_, z.i.snap park_cv park_mb, rfl, z.r0⟩
  · rw [hj1]; exact hk1.row hr (h.nRig hr)
  · rcases hx1.new b q with q | q
    · exact hM b q
    · have := z.k.size; omega
  · refine ⟨hx1.sub c (hV c q).1, fun q2 => ?_, (hV c q).2.2⟩
    rcases ho1 c q2 with q2 | q2
    · exact (hV c q).2.1 q2
    · have := h.lt c (hV c q).1; omega
  · have := hM b (h.own q); omega
set_option maxRecDepth 100000 in
theorem fiStat4 : fiK Tryz.prog 102 4 = some 4 := by kernel_rfl
set_option maxHeartbeats 4000000 in
/-- the last look -/
theorem other_end (h2 : En M2 w e2 m2 C2 σ2 J2) (h : En M w e m C σ J) (hr : Row w r 47 [P m.j 0, P e 0]) (hn : σ2.now = σ.now) (hs : σ2.seq = σ.seq) (hp : σ2.sp = 0) (hK : ∀ w', Kp Emp w w' → K (.bool true) w') :
    s15_p2 K (P r 0) (P e2 0) .nilIface w := by
  unfold s15_p2 s15_p2_d
  have kd : Kp Emp w (drw w) := kp_drw
  generalize drw w = w1 at kd ⊢
  have h2' := h2.kp' kd
  have h' := h.kp' kd
  have hr' := kd.row' hr
  try simp only [e_fd, e_nck, e_pkt, e_pkf, e_gdtt, e_gdtf, e_gdft, e_gdff, e_ift, e_iff, e_not, e_ln, e_lnT, e_cp, e_cvi, e_ex20, e_ex21, e_ex30, e_ex31, e_ex32, e_add, e_sub, e_mul, e_quo, e_rem, e_and, e_or, e_xor, e_shl, e_shr, e_eql, e_neq, e_lss, e_leq, e_gtr, e_geq, e_beq, e_bne, e_peq1, e_peq2, e_pne1, e_pne2, e_zeq1, e_zeq2, e_zne1, e_zne2, e_feq1, e_fne1, e_feq2, e_fne2, e_seq, e_sne, e_ta1, e_ta2, Nat.zero_add, Nat.add_zero, Bool.not_true, Bool.not_false]
  refine ld1_r hr' rfl ?_
  refine now_ok h2' ⟨(Kp.refl _ _).below', ?_⟩
  refine now_ok h' ?_
  rw [hn]
  have en : (σ.now == σ.now) = true := by simp
  have es : (σ.seq == σ.seq) = true := by simp
  simp only [en, e_fd, e_nck, e_pkt, e_pkf, e_gdtt, e_gdtf, e_gdft, e_gdff, e_ift, e_iff, e_not, e_ln, e_lnT, e_cp, e_cvi, e_ex20, e_ex21, e_ex30, e_ex31, e_ex32, e_add, e_sub, e_mul, e_quo, e_rem, e_and, e_or, e_xor, e_shl, e_shr, e_eql, e_neq, e_lss, e_leq, e_gtr, e_geq, e_beq, e_bne, e_peq1, e_peq2, e_pne1, e_pne2, e_zeq1, e_zeq2, e_zne1, e_zne2, e_feq1, e_fne1, e_feq2, e_fne2, e_seq, e_sne, e_ta1, e_ta2, Nat.zero_add, Nat.add_zero, Bool.not_true, Bool.not_false]
  have g4a : σ2.sts.toArray[4]? = some (I 0) := by rw [List.getElem?_toArray, ← hp]; rfl
  have fin : ∀ {w3 : World}, Kp Emp w1 w3 → cl Tryz.prog 49 #[P e2 0] (fun t111 w => fi Tryz.prog 102 t111 4 (fun t112 w => boI .eql t112 (I 0) (fun t113 w => s15_p1 K t113 w) w) w) w3 := fun {w3} hk3 => by
    refine stats_ok (h2'.kp' hk3) fun w4 hk4 => ?_
    refine fi_r (v := I 0) fiStat4 g4a ?_
    have e00 : ((0 : Int) == 0) = true := rfl
    simp only [e00, e_fd, e_nck, e_pkt, e_pkf, e_gdtt, e_gdtf, e_gdft, e_gdff, e_ift, e_iff, e_not, e_ln, e_lnT, e_cp, e_cvi, e_ex20, e_ex21, e_ex30, e_ex31, e_ex32, e_add, e_sub, e_mul, e_quo, e_rem, e_and, e_or, e_xor, e_shl, e_shr, e_eql, e_neq, e_lss, e_leq, e_gtr, e_geq, e_beq, e_bne, e_peq1, e_peq2, e_pne1, e_pne2, e_zeq1, e_zeq2, e_zne1, e_zne2, e_feq1, e_fne1, e_feq2, e_fne2, e_seq, e_sne, e_ta1, e_ta2, Nat.zero_add, Nat.add_zero, Bool.not_true, Bool.not_false]
    unfold s15_p1
    exact hK w4 ((kd.trans hk3).trans hk4)
  have lg : ∀ {f x : Nat} {X : Value → World → Prop}, (f = 50 ∧ (x = e2 ∨ x = e)) → X (I σ.seq) w1 → cl Tryz.prog f #[P x 0] X w1 := fun {f x X} hf hX => by
    obtain ⟨rfl, rfl | rfl⟩ := hf
    · exact logged_ok h2' (by rw [hs]; exact hX)
    · exact logged_ok h' hX
  have ldr : ∀ {X : Value → World → Prop}, X (P e 0) w1 → ld1 (P r 1) X w1 := fun {X} hX => ld1_r hr' rfl hX
  repeat' first
    | refine And.intro ?_ ?_
    | refine lg (by exact ⟨rfl, .inl rfl⟩) ?_
    | refine lg (by exact ⟨rfl, .inr rfl⟩) ?_
    | exact fin (Kp.refl _ _)
    | refine ldr ?_
    | (simp only [es, e_fd, e_nck, e_pkt, e_pkf, e_gdtt, e_gdtf, e_gdft, e_gdff, e_eql, Nat.zero_add])
end
end Go.Proofs.Qxb6500896aGreat
