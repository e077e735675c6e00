import Derived.Test.Qxb6500899aFmtH3
namespace Go.Proofs.Qxb6500899aFmt
open Go.Sh Go.RowKit
set_option linter.unusedVariables false
set_option linter.unusedSimpArgs false

section
variable {w w' : World} {K : Value → World → Prop} {s n c : Nat}
abbrev Han (w : World) : Prop := w.cell? ⟨0, 0, none⟩ = some (.iface 101 (.agg #[.pointer (some ⟨1, 34, none⟩)]))
theorem Han.kp {S : Nat → Prop} (h : Kp S w w') (hS : ¬ S 0) (hc : Han w) : Han w' := by
  have hlt : 0 < w.heap.size := by
    rcases Nat.eq_zero_or_pos w.heap.size with q | q
    · simp [Han, World.cell?, Array.getElem?_eq_none (show w.heap.size ≤ 0 by omega)] at hc
    · exact q
  simp only [Han, World.cell?] at hc ⊢
  rw [h.block 0 hlt hS]
  exact hc
theorem codeOf_ok {v : Value} (hg : Han w) (he : GErr w v) (hK : ∀ w', Kp (fun _ => False) w w' → K (U8 1) w') : cl Tryf.prog 6 #[v] K w := by
  obtain ⟨b, str, rfl, r⟩ := he
  apply c6
  unfold s6_p1
  try simp only [e_fd, e_nck, e_pkt, e_pkf, e_gdtt, e_gdtf, e_gdft, e_gdff, e_ift, e_iff, e_not, e_ln, e_lnT, e_cp, e_cvi, e_ex20, e_ex21, e_ex30, e_ex31, e_ex32, e_add, e_sub, e_mul, e_quo, e_rem, e_and, e_or, e_xor, e_shl, e_shr, e_eql, e_neq, e_lss, e_leq, e_gtr, e_geq, e_beq, e_bne, e_peq1, e_peq2, e_pne1, e_pne2, e_zeq1, e_zeq2, e_zne1, e_zne2, e_feq1, e_fne1, e_feq2, e_fne2, e_seq, e_sne, e_ta1, e_ta2, Nat.zero_add, Nat.add_zero, Bool.not_true, Bool.not_false]
  refine nw_r fun w1 r1 hk1 hz1 => ?_
  replace r1 : Row w1 w.heap.size 58 [.pointer none] := r1
  have lt := r.lt
  have h1 := tf_as_hit ⟨b, 0, none⟩ ⟨w.heap.size, 0, none⟩ (.pointer none) w1 (hg.kp hk1 (fun q => q)) (by rw [r1.cell]; rfl) (r1.frozen 0)
  refine h1.mono fun ev w2 ⟨he, hw⟩ => ⟨.bool true, he, ?_⟩
  try simp only [e_fd, e_nck, e_pkt, e_pkf, e_gdtt, e_gdtf, e_gdft, e_gdff, e_ift, e_iff, e_not, e_ln, e_lnT, e_cp, e_cvi, e_ex20, e_ex21, e_ex30, e_ex31, e_ex32, e_add, e_sub, e_mul, e_quo, e_rem, e_and, e_or, e_xor, e_shl, e_shr, e_eql, e_neq, e_lss, e_leq, e_gtr, e_geq, e_beq, e_bne, e_peq1, e_peq2, e_pne1, e_pne2, e_zeq1, e_zeq2, e_zne1, e_zne2, e_feq1, e_fne1, e_feq2, e_fne2, e_seq, e_sne, e_ta1, e_ta2, Nat.zero_add, Nat.add_zero, Bool.not_true, Bool.not_false]
  have hr : ∀ (o1 o2 o3 o4 : Obj), Row ((((w1.alloc o1).alloc o2).alloc o3).alloc o4) w.heap.size 58 [.pointer none] := fun o1 o2 o3 o4 => (((r1.alloc o1).alloc o2).alloc o3).alloc o4
  have hr2 : Row w2 w.heap.size 58 [P b 0] := by
    rw [hw]
    exact (hr _ _ _ _).set 0 _
  have hk2 : Kp (fun k => k = w.heap.size) w1 w2 := by
    rw [hw]
    exact ((((kp_alloc _).trans (kp_alloc _)).trans (kp_alloc _)).trans (kp_alloc _)).trans (kp_set _ rfl)
  have k2 : Kp (fun _ => False) w w2 := hk1.then hk2 (fun k hk (q : k = _) => by omega)
  refine ld1_r hr2 rfl ?_
  try simp only [e_fd, e_nck, e_pkt, e_pkf, e_gdtt, e_gdtf, e_gdft, e_gdff, e_ift, e_iff, e_not, e_ln, e_lnT, e_cp, e_cvi, e_ex20, e_ex21, e_ex30, e_ex31, e_ex32, e_add, e_sub, e_mul, e_quo, e_rem, e_and, e_or, e_xor, e_shl, e_shr, e_eql, e_neq, e_lss, e_leq, e_gtr, e_geq, e_beq, e_bne, e_peq1, e_peq2, e_pne1, e_pne2, e_zeq1, e_zeq2, e_zne1, e_zne2, e_feq1, e_fne1, e_feq2, e_fne2, e_seq, e_sne, e_ta1, e_ta2, Nat.zero_add, Nat.add_zero, Bool.not_true, Bool.not_false]
  refine ld1_r (k2.row' r) rfl ?_
  exact hK w2 k2
end
end Go.Proofs.Qxb6500899aFmt
