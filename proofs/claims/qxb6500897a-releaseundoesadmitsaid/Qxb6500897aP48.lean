import Derived.Test.Qxb6500897aP47
namespace Go.Proofs.Qxb6500897a
open Go.Sh Go.RowKit
set_option linter.unusedVariables false
set_option linter.unusedSimpArgs false

set_option maxHeartbeats 1000000 in
set_option maxRecDepth 10000 in
/-- kept = kept && slot < now + horizon: in whatever order -/
theorem rel_kept {w : World} {b vb : Nat} {now : Int} {o : Op} {K : Value → World → Prop} {B1 : List Value → World → Prop} {t3 t7 t9 v ln ii fv sv : Value} {sn : Bool} (n0 : 0 ≤ now) (n1 : now ≤ 90) (hr : Row w b 34 o.cells) (rv : Row w vb 43 [.bool true, I now, fv, sv])
    (hK : ∀ w', Kp (fun _ => False) w w' → s6_p9 K B1 t3 (.pointer (some ⟨b, 0, none⟩)) (.pointer (some ⟨vb, 0, none⟩)) t7 t9 (.bool (sn && decide (o.slot < now + 6))) v ln ii w') :
    s6_p10 K B1 t3 (.pointer (some ⟨b, 0, none⟩)) (.pointer (some ⟨vb, 0, none⟩)) t7 t9 (.bool sn) v ln ii w := by
  have hrd := hr.drw
  have rvd := rv.drw
  have hw6 : IntKind.i64.wrap (now + 6) = now + 6 := wrap64_id (by omega) (by omega)
  unfold s6_p10 s6_p10_d
  cases sn with
  | false =>
    simp only [e_fd, e_nck, e_pkt, e_pkf, e_gdtt, e_gdtf, e_gdft, e_gdff, e_ift, e_iff, e_not, e_ln, e_lnT, e_cp, e_cvi, e_ex20, e_ex21, e_ex30, e_ex31, e_ex32, e_add, e_sub, e_mul, e_quo, e_rem, e_and, e_or, e_xor, e_shl, e_shr, e_eql, e_neq, e_lss, e_leq, e_gtr, e_geq, e_beq, e_bne, e_peq1, e_peq2, e_pne1, e_pne2, e_zeq1, e_zeq2, e_zne1, e_zne2, e_feq1, e_fne1, e_feq2, e_fne2, e_seq, e_sne, e_ta1, e_ta2, Nat.zero_add, Nat.add_zero, Bool.not_true, Bool.not_false, and_self]
    exact hK _ kp_drw
  | true =>
    have leaf : ∀ w', Kp (fun _ => False) (drw w) w' → s6_p9 K B1 t3 (.pointer (some ⟨b, 0, none⟩)) (.pointer (some ⟨vb, 0, none⟩)) t7 t9 (.bool (decide (o.slot < now + 6))) v ln ii w' := by
      intro w' hk
      have := hK w' (kp_drw.trans hk)
      rw [Bool.true_and] at this
      exact this
    simp only [e_fd, e_nck, e_pkt, e_pkf, e_gdtt, e_gdtf, e_gdft, e_gdff, e_ift, e_iff, e_not, e_ln, e_lnT, e_cp, e_cvi, e_ex20, e_ex21, e_ex30, e_ex31, e_ex32, e_add, e_sub, e_mul, e_quo, e_rem, e_and, e_or, e_xor, e_shl, e_shr, e_eql, e_neq, e_lss, e_leq, e_gtr, e_geq, e_beq, e_bne, e_peq1, e_peq2, e_pne1, e_pne2, e_zeq1, e_zeq2, e_zne1, e_zne2, e_feq1, e_fne1, e_feq2, e_fne2, e_seq, e_sne, e_ta1, e_ta2, Nat.zero_add, Nat.add_zero, Bool.not_true, Bool.not_false, and_self]
    repeat' (first
      | refine And.intro ?_ ?_
      | (apply ld1_r (v := I o.slot) (o := 2); assumption; rfl)
      | (apply ld1_r (v := I now) (o := 1); assumption; rfl)
      | (refine park_ok fun w1 pb hpb rp hk1 => ?_; have hr1 := hk1.row' hrd; have rv1 := hk1.row' rvd)
      | refine fi_r (o := 0) fiK30_0 rfl ?_
      | exact leaf _ hk1
      | (simp only [e_fd, e_nck, e_pkt, e_pkf, e_gdtt, e_gdtf, e_gdft, e_gdff, e_ift, e_iff, e_not, e_ln, e_lnT, e_cp, e_cvi, e_ex20, e_ex21, e_ex30, e_ex31, e_ex32, e_add, e_sub, e_mul, e_quo, e_rem, e_and, e_or, e_xor, e_shl, e_shr, e_eql, e_neq, e_lss, e_leq, e_gtr, e_geq, e_beq, e_bne, e_peq1, e_peq2, e_pne1, e_pne2, e_zeq1, e_zeq2, e_zne1, e_zne2, e_feq1, e_fne1, e_feq2, e_fne2, e_seq, e_sne, e_ta1, e_ta2, Nat.zero_add, Nat.add_zero, Bool.not_true, Bool.not_false, hw6]))
end Go.Proofs.Qxb6500897a
