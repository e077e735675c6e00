import Derived.Test.Qxb6500896aGreatK90
import Derived.Test.Qxb6500896aGreatN14
import Derived.Test.Qxb6500896aGreatGq
namespace Go.Proofs.Qxb6500896aGreat
open Go.Sh Go.RowKit
set_option linter.unusedVariables false
set_option linter.unusedSimpArgs false

section
variable {W w w' w0 : World} {V V' U S F M0 : Nat → Prop} {r1 e1 r2 e2 c : Nat} {σ1 σ2 : Sg} {J1 J2 : Jr} {K : Value → World → Prop} {v : Value} {bs : List Int} {M : Nat → Prop} {m : Me} {q : Rq} {l : List Value}
/-- a rig beside others -/
theorem newRigM_ok {a b c : Int} (hb : small b) (h0 : ∀ b, M0 b → b < w.heap.size) (hK : ∀ w' M' r e m, Ext M0 M' w w' → Kp Emp w w' → En M' w' e m park (sg0 park) (jr0 a b c) → Row w' r 47 [P m.j 0, P e 0] → w.heap.size ≤ r → (∀ b, OwnE e m b → w.heap.size ≤ b) → K (P r 0) w') : cl Tryz.prog 18 #[.agg #[I a, I b, I c]] K w := by
  apply c18
  unfold s18_p4
  refine nw_r fun w1 r1 hk1 hz1 => ?_
  replace r1 : Row w1 w.heap.size 27 [I a, I b, I c] := r1
  refine ldn_r r1 (show 0 + 3 ≤ 3 by decide) ?_
  refine jnew_ok (M := M0) hb (fun b q => by have := h0 b q; omega) fun w2 M2 j hx2 hk2 hj2 jn2 => ?_
  refine bdq_r (l := [P j 0, .pointer none]) rfl ?_
  refine nw_r fun w3 r3 hk3 hz3 => ?_
  replace r3 : Row w3 w2.heap.size 47 [P j 0, .pointer none] := r3
  have s2 := hk2.size
  have jlt := jn2.lt j jn2.mj
  have hx3 : Ext M2 (fun b => M2 b ∨ b = w2.heap.size) w2 w3 := Ext.add jn2.lt hk3 (Nat.le_refl _) (by omega)
  have jn3 := jn2.ext hx3 hk3 (fun _ q => q.elim) (fun _ _ q => q)
  unfold s18_p3 s18_p3_d
  have kd : Kp Emp w3 (drw w3) := kp_drw
  have szd : (drw w3).heap.size = w3.heap.size := rfl
  generalize drw w3 = w4 at kd szd ⊢
  have r4 := kd.row' r3
  try simp only [e_fd, e_nck, e_pkt, e_pkf, e_gdtt, e_gdtf, e_gdft, e_gdff, e_ift, e_iff, e_not, e_ln, e_lnT, e_cp, e_cvi, e_ex20, e_ex21, e_ex30, e_ex31, e_ex32, e_add, e_sub, e_mul, e_quo, e_rem, e_and, e_or, e_xor, e_shl, e_shr, e_eql, e_neq, e_lss, e_leq, e_gtr, e_geq, e_beq, e_bne, e_peq1, e_peq2, e_pne1, e_pne2, e_zeq1, e_zeq2, e_zne1, e_zne2, e_feq1, e_fne1, e_feq2, e_fne2, e_seq, e_sne, e_ta1, e_ta2, Nat.zero_add, Nat.add_zero, Bool.not_true, Bool.not_false]
  refine ld1_r r4 rfl ?_
  refine park_ok fun w5 l5 hk5 hc5 => ⟨hk5.below', ?_⟩
  have jn5 := (jn3.kp' kd).kp' hk5
  have r5 := hk5.row' r4
  refine open_new hc5 park_v jn5 rfl rfl rfl rfl (fun b hb => by have := hb.1; omega) fun w6 M6 e m hx6 hk6 hmj hml hown he6 => ?_
  have r6 := hk6.row r5 (show ¬ w2.heap.size = j by omega)
  simp only [ex2_0, ex2_1, and_self]
  unfold s18_p2
  try simp only [e_fd, e_nck, e_pkt, e_pkf, e_gdtt, e_gdtf, e_gdft, e_gdff, e_ift, e_iff, e_not, e_ln, e_lnT, e_cp, e_cvi, e_ex20, e_ex21, e_ex30, e_ex31, e_ex32, e_add, e_sub, e_mul, e_quo, e_rem, e_and, e_or, e_xor, e_shl, e_shr, e_eql, e_neq, e_lss, e_leq, e_gtr, e_geq, e_beq, e_bne, e_peq1, e_peq2, e_pne1, e_pne2, e_zeq1, e_zeq2, e_zne1, e_zne2, e_feq1, e_fne1, e_feq2, e_fne2, e_seq, e_sne, e_ta1, e_ta2, Nat.zero_add, Nat.add_zero, Bool.not_true, Bool.not_false]
  unfold s18_p1
  try simp only [e_fd, e_nck, e_pkt, e_pkf, e_gdtt, e_gdtf, e_gdft, e_gdff, e_ift, e_iff, e_not, e_ln, e_lnT, e_cp, e_cvi, e_ex20, e_ex21, e_ex30, e_ex31, e_ex32, e_add, e_sub, e_mul, e_quo, e_rem, e_and, e_or, e_xor, e_shl, e_shr, e_eql, e_neq, e_lss, e_leq, e_gtr, e_geq, e_beq, e_bne, e_peq1, e_peq2, e_pne1, e_pne2, e_zeq1, e_zeq2, e_zne1, e_zne2, e_feq1, e_fne1, e_feq2, e_fne2, e_seq, e_sne, e_ta1, e_ta2, Nat.zero_add, Nat.add_zero, Bool.not_true, Bool.not_false]
  have hMr : M6 w2.heap.size := hx6.sub _ (.inr rfl)
  refine st1_r r6 (show 1 < 2 by decide) rfl fun w7 r7 hk7 hz7 => ?_
  replace r7 : Row w7 w2.heap.size 47 [P j 0, P e 0] := r7
  have nown := he6.nRig r6
  have h7 := he6.ext (Ext.same he6.lt hk7) hk7 (fun b (q : b = _) _ => q ▸ hMr) fun b q (q2 : b = _) => nown (q2 ▸ q)
  have s5 := hk5.size
  have s6 := hk6.size
  have hx7 : Ext M0 M6 w w7 := ⟨fun b q => hx6.sub b (.inl (hx2.sub b q)), fun b q => by
    rcases hx6.new b q with q | q
    · rcases q with q | q
      · rcases hx2.new b q with q | q
        · exact .inl q
        · exact .inr (by omega)
      · exact .inr (by omega)
    · exact .inr (by omega), by omega, fun b q => by have := he6.lt b q; omega⟩
  have k7 : Kp Emp w w7 := ((((hk1.trans hk2).trans hk3).trans (kd.trans hk5)).then hk6 fun b hb (q : b = j) => by omega).then hk7 fun b hb (q : b = _) => by omega
  refine hK w7 M6 w2.heap.size e m hx7 k7 h7 (by rw [hmj]; exact r7) (by omega) fun b q => ?_
  rcases hown b q with q | q
  · rcases q with q | q
    · omega
    · cases q
  · omega
end
end Go.Proofs.Qxb6500896aGreat
