import Derived.Test.Qxb6500898aV29
import Derived.Test.Qxb6500898aG3
namespace Go.Proofs.Qxb6500898a
open Go.Sh Go.RowKit
set_option linter.unusedVariables false
set_option linter.unusedSimpArgs false

section
variable {W w w' w0 w2 : World} {v d t wv rv dv t0 t1 t2 : Value} {ob mwb mrb mwb0 mrb0 : Option Nat} {mb mm t3 t4 b e m n i k : Nat} {xs ys zs pr da X Y : List Int} {K : Value → World → Prop} {kk : World → Prop} {S S' : Nat → Prop} {L : List Value} {q c z : Int} {little : Bool} {s s' s0 s1 s2 : Mst} {o : Op}
theorem stepR_det {ok1 ok2 : Bool} {v1 v2 : Int} {d1 d2 : List Int} (h1 : StepR s o s1 ok1 v1 d1) (h2 : StepR s o s2 ok2 v2 d2) : s1 = s2 ∧ ok1 = ok2 ∧ v1 = v2 ∧ d1 = d2 := by
  unfold StepR at h1 h2
  by_cases k0 : o.kind = 0
  · rw [if_pos k0] at h1 h2
    obtain ⟨rfl, rfl, rfl, rfl⟩ := h1
    obtain ⟨rfl, rfl, rfl, rfl⟩ := h2
    exact ⟨rfl, rfl, rfl, rfl⟩
  rw [if_neg k0] at h1 h2
  by_cases k1 : o.kind = 1
  · rw [if_pos k1] at h1 h2
    obtain ⟨rfl, h1, rfl⟩ := h1
    obtain ⟨rfl, h2, rfl⟩ := h2
    rcases h1 with ⟨a1, a2, rfl, rfl⟩ | ⟨a1, rfl, rfl⟩
    · rcases h2 with ⟨b1, b2, rfl, rfl⟩ | ⟨b1, rfl, rfl⟩
      · exact ⟨rfl, rfl, rfl, rfl⟩
      · exact absurd ⟨a1, a2⟩ b1
    · rcases h2 with ⟨b1, b2, rfl, rfl⟩ | ⟨b1, rfl, rfl⟩
      · exact absurd ⟨b1, b2⟩ a1
      · exact ⟨rfl, rfl, rfl, rfl⟩
  rw [if_neg k1] at h1 h2
  by_cases k2 : o.kind = 2
  · rw [if_pos k2] at h1 h2
    obtain ⟨h1, rfl, rfl⟩ := h1
    obtain ⟨h2, rfl, rfl⟩ := h2
    rcases h1 with ⟨a1, a2, rfl, rfl⟩ | ⟨a1, rfl, rfl⟩
    · rcases h2 with ⟨b1, b2, rfl, rfl⟩ | ⟨b1, rfl, rfl⟩
      · exact ⟨rfl, rfl, rfl, rfl⟩
      · exact absurd ⟨a1, a2⟩ b1
    · rcases h2 with ⟨b1, b2, rfl, rfl⟩ | ⟨b1, rfl, rfl⟩
      · exact absurd ⟨b1, b2⟩ a1
      · exact ⟨rfl, rfl, rfl, rfl⟩
  rw [if_neg k2] at h1 h2
  by_cases k3 : o.kind = 3
  · rw [if_pos k3] at h1 h2
    obtain ⟨h1, rfl, rfl⟩ := h1
    obtain ⟨h2, rfl, rfl⟩ := h2
    rcases h1 with ⟨a1, rfl, rfl⟩ | ⟨a1, rfl, rfl⟩
    · rcases h2 with ⟨b1, rfl, rfl⟩ | ⟨b1, rfl, rfl⟩
      · exact ⟨rfl, rfl, rfl, rfl⟩
      · exact absurd a1 b1
    · rcases h2 with ⟨b1, rfl, rfl⟩ | ⟨b1, rfl, rfl⟩
      · exact absurd b1 a1
      · exact ⟨rfl, rfl, rfl, rfl⟩
  rw [if_neg k3] at h1 h2
  by_cases k4 : o.kind = 4
  · rw [if_pos k4] at h1 h2
    obtain ⟨rfl, rfl, rfl, rfl⟩ := h1
    obtain ⟨rfl, rfl, rfl, rfl⟩ := h2
    exact ⟨rfl, rfl, rfl, rfl⟩
  rw [if_neg k4] at h1 h2
  by_cases k5 : o.kind = 5
  · rw [if_pos k5] at h1 h2
    obtain ⟨rfl, rfl, rfl, rfl⟩ := h1
    obtain ⟨rfl, rfl, rfl, rfl⟩ := h2
    exact ⟨rfl, rfl, rfl, rfl⟩
  rw [if_neg k5] at h1 h2
  by_cases k6 : o.kind = 6
  · rw [if_pos k6] at h1 h2
    obtain ⟨h1, rfl, rfl⟩ := h1
    obtain ⟨h2, rfl, rfl⟩ := h2
    rcases h1 with ⟨a1, rfl, zs, bz, lz, rz, rfl⟩ | ⟨a1, rfl, rfl⟩
    · rcases h2 with ⟨b1, rfl, zs2, bz2, lz2, rz2, rfl⟩ | ⟨b1, rfl, rfl⟩
      · rw [res_eq rz rz2 bz bz2 lz lz2]
        exact ⟨rfl, rfl, rfl, rfl⟩
      · exact absurd a1 b1
    · rcases h2 with ⟨b1, rfl, zs2, bz2, lz2, rz2, rfl⟩ | ⟨b1, rfl, rfl⟩
      · exact absurd b1 a1
      · exact ⟨rfl, rfl, rfl, rfl⟩
  rw [if_neg k6] at h1 h2
  by_cases k7 : o.kind = 7
  · rw [if_pos k7] at h1 h2
    obtain ⟨h1, rfl, rfl⟩ := h1
    obtain ⟨h2, rfl, rfl⟩ := h2
    rcases h1 with ⟨a1, rfl, zs, bz, lz, rz, rfl⟩ | ⟨a1, rfl, rfl⟩
    · rcases h2 with ⟨b1, rfl, zs2, bz2, lz2, rz2, rfl⟩ | ⟨b1, rfl, rfl⟩
      · rw [res_eq rz rz2 bz bz2 lz lz2]
        exact ⟨rfl, rfl, rfl, rfl⟩
      · exact absurd b1 a1
    · rcases h2 with ⟨b1, rfl, zs2, bz2, lz2, rz2, rfl⟩ | ⟨b1, rfl, rfl⟩
      · exact absurd a1 b1
      · exact ⟨rfl, rfl, rfl, rfl⟩
  rw [if_neg k7] at h1 h2
  by_cases k8 : o.kind = 8
  · rw [if_pos k8] at h1 h2
    obtain ⟨rfl, rfl, rfl, rfl⟩ := h1
    obtain ⟨rfl, rfl, rfl, rfl⟩ := h2
    exact ⟨rfl, rfl, rfl, rfl⟩
  rw [if_neg k8] at h1 h2
  by_cases k9 : o.kind = 9
  · rw [if_pos k9] at h1 h2
    obtain ⟨rfl, rfl, rfl, rfl⟩ := h1
    obtain ⟨rfl, rfl, rfl, rfl⟩ := h2
    exact ⟨rfl, rfl, rfl, rfl⟩
  rw [if_neg k9] at h1 h2
  by_cases k10 : o.kind = 10
  · rw [if_pos k10] at h1 h2
    obtain ⟨h1, rfl⟩ := h1
    obtain ⟨h2, rfl⟩ := h2
    rcases h1 with ⟨r1, a1, rfl, rfl, rfl⟩ | ⟨a1, rfl, rfl, rfl⟩
    · rcases h2 with ⟨r2, b1, rfl, rfl, rfl⟩ | ⟨b1, rfl, rfl, rfl⟩
      · rw [a1] at b1
        cases b1
        exact ⟨rfl, rfl, rfl, rfl⟩
      · rw [a1] at b1; cases b1
    · rcases h2 with ⟨r2, b1, rfl, rfl, rfl⟩ | ⟨b1, rfl, rfl, rfl⟩
      · rw [a1] at b1; cases b1
      · exact ⟨rfl, rfl, rfl, rfl⟩
  rw [if_neg k10] at h1 h2
  by_cases k11 : o.kind = 11
  · rw [if_pos k11] at h1 h2
    obtain ⟨rfl, rfl, rfl, rfl⟩ := h1
    obtain ⟨rfl, rfl, rfl, rfl⟩ := h2
    exact ⟨rfl, rfl, rfl, rfl⟩
  rw [if_neg k11] at h1 h2
  have ex : ∀ {x : Int}, (s.failed = true ∨ ¬ FitsP s.buf.length s.off x) → s.failed = false → FitsP s.buf.length s.off x → False := fun h a b => by
    rcases h with q | q
    · rw [q] at a; cases a
    · exact q b
  by_cases k12 : o.kind = 12
  · rw [if_pos k12] at h1 h2
    obtain ⟨h1, rfl⟩ := h1
    obtain ⟨h2, rfl⟩ := h2
    rcases h1 with ⟨a1, rfl, rfl, rfl⟩ | ⟨a1, a2, rfl, rfl, rfl⟩ | ⟨a1, a2, a3, rfl, rfl, rfl⟩
    · rcases h2 with ⟨b1, rfl, rfl, rfl⟩ | ⟨b1, b2, rfl, rfl, rfl⟩ | ⟨b1, b2, b3, rfl, rfl, rfl⟩
      · exact ⟨rfl, rfl, rfl, rfl⟩
      · exact absurd b1 a1
      · exact absurd b1 a1
    · rcases h2 with ⟨b1, rfl, rfl, rfl⟩ | ⟨b1, b2, rfl, rfl, rfl⟩ | ⟨b1, b2, b3, rfl, rfl, rfl⟩
      · exact absurd a1 b1
      · exact ⟨rfl, rfl, rfl, rfl⟩
      · exact (ex a2 b2 b3).elim
    · rcases h2 with ⟨b1, rfl, rfl, rfl⟩ | ⟨b1, b2, rfl, rfl, rfl⟩ | ⟨b1, b2, b3, rfl, rfl, rfl⟩
      · exact absurd a1 b1
      · exact (ex b2 a2 a3).elim
      · exact ⟨rfl, rfl, rfl, rfl⟩
  rw [if_neg k12] at h1 h2
  by_cases k13 : o.kind = 13
  · rw [if_pos k13] at h1 h2
    obtain ⟨h1, rfl⟩ := h1
    obtain ⟨h2, rfl⟩ := h2
    rcases h1 with ⟨a2, rfl, rfl, rfl⟩ | ⟨a2, a3, rfl, rfl, rfl⟩
    · rcases h2 with ⟨b2, rfl, rfl, rfl⟩ | ⟨b2, b3, rfl, rfl, rfl⟩
      · exact ⟨rfl, rfl, rfl, rfl⟩
      · exact (ex a2 b2 b3).elim
    · rcases h2 with ⟨b2, rfl, rfl, rfl⟩ | ⟨b2, b3, rfl, rfl, rfl⟩
      · exact (ex b2 a2 a3).elim
      · exact ⟨rfl, rfl, rfl, rfl⟩
  rw [if_neg k13] at h1 h2
  by_cases k14 : o.kind = 14
  · rw [if_pos k14] at h1 h2
    obtain ⟨h1, rfl, rfl⟩ := h1
    obtain ⟨h2, rfl, rfl⟩ := h2
    rcases h1 with ⟨a2, rfl, rfl⟩ | ⟨a2, a3, rfl, rfl⟩
    · rcases h2 with ⟨b2, rfl, rfl⟩ | ⟨b2, b3, rfl, rfl⟩
      · exact ⟨rfl, rfl, rfl, rfl⟩
      · exact (ex a2 b2 b3).elim
    · rcases h2 with ⟨b2, rfl, rfl⟩ | ⟨b2, b3, rfl, rfl⟩
      · exact (ex b2 a2 a3).elim
      · exact ⟨rfl, rfl, rfl, rfl⟩
  rw [if_neg k14] at h1 h2
  obtain ⟨rfl, rfl, rfl, rfl⟩ := h1
  obtain ⟨rfl, rfl, rfl, rfl⟩ := h2
  exact ⟨rfl, rfl, rfl, rfl⟩
theorem sameOut_ok {ok : Bool} {x : Int} {d1 d2 : Value} (h1 : ∀ w', Kp (fun _ => False) w w' → Bs w' d1 xs) (h2 : ∀ w', Kp (fun _ => False) w w' → Bs w' d2 xs) (hK : ∀ w', Kp (fun _ => False) w w' → K (.bool true) w') : cl Try.prog 12 #[.agg #[.bool ok, .int .u64 x, d1], .agg #[.bool ok, .int .u64 x, d2]] K w := by
  apply c12
  unfold s12_p1
  refine nw_r fun w1 r1 hk1 hz1 => ?_
  refine nw_r fun w2 r2 hk2 hz2 => ?_
  have r1' := hk2.row' r1
  have k2 := hk1.trans hk2
  try simp only [e_fd, e_nck, e_pkt, e_pkf, e_gdtt, e_gdtf, e_gdft, e_gdff, e_ift, e_iff, e_not, e_ln, e_lnT, e_cp, e_cvi, e_ex20, e_ex21, e_ex30, e_ex31, e_ex32, e_add, e_sub, e_mul, e_quo, e_rem, e_and, e_or, e_xor, e_shl, e_shr, e_eql, e_neq, e_lss, e_leq, e_gtr, e_geq, e_beq, e_bne, e_peq1, e_peq2, e_pne1, e_pne2, e_zeq1, e_zeq2, e_zne1, e_zne2, e_feq1, e_fne1, e_feq2, e_fne2, e_seq, e_sne, e_ta1, e_ta2, Nat.zero_add, Nat.add_zero, Bool.not_true, Bool.not_false]
  refine ld1_r r1' rfl ?_
  try simp only [e_fd, e_nck, e_pkt, e_pkf, e_gdtt, e_gdtf, e_gdft, e_gdff, e_ift, e_iff, e_not, e_ln, e_lnT, e_cp, e_cvi, e_ex20, e_ex21, e_ex30, e_ex31, e_ex32, e_add, e_sub, e_mul, e_quo, e_rem, e_and, e_or, e_xor, e_shl, e_shr, e_eql, e_neq, e_lss, e_leq, e_gtr, e_geq, e_beq, e_bne, e_peq1, e_peq2, e_pne1, e_pne2, e_zeq1, e_zeq2, e_zne1, e_zne2, e_feq1, e_fne1, e_feq2, e_fne2, e_seq, e_sne, e_ta1, e_ta2, Nat.zero_add, Nat.add_zero, Bool.not_true, Bool.not_false]
  refine ld1_r r2 rfl ?_
  simp only [beq_self_eq_true, e_fd, e_nck, e_pkt, e_pkf, e_gdtt, e_gdtf, e_gdft, e_gdff, e_ift, e_iff, e_not, e_ln, e_lnT, e_cp, e_cvi, e_ex20, e_ex21, e_ex30, e_ex31, e_ex32, e_add, e_sub, e_mul, e_quo, e_rem, e_and, e_or, e_xor, e_shl, e_shr, e_eql, e_neq, e_lss, e_leq, e_gtr, e_geq, e_beq, e_bne, e_peq1, e_peq2, e_pne1, e_pne2, e_zeq1, e_zeq2, e_zne1, e_zne2, e_feq1, e_fne1, e_feq2, e_fne2, e_seq, e_sne, e_ta1, e_ta2, Nat.zero_add, Nat.add_zero, Bool.not_true, Bool.not_false]
  refine ld1_r r1' rfl ?_
  try simp only [e_fd, e_nck, e_pkt, e_pkf, e_gdtt, e_gdtf, e_gdft, e_gdff, e_ift, e_iff, e_not, e_ln, e_lnT, e_cp, e_cvi, e_ex20, e_ex21, e_ex30, e_ex31, e_ex32, e_add, e_sub, e_mul, e_quo, e_rem, e_and, e_or, e_xor, e_shl, e_shr, e_eql, e_neq, e_lss, e_leq, e_gtr, e_geq, e_beq, e_bne, e_peq1, e_peq2, e_pne1, e_pne2, e_zeq1, e_zeq2, e_zne1, e_zne2, e_feq1, e_fne1, e_feq2, e_fne2, e_seq, e_sne, e_ta1, e_ta2, Nat.zero_add, Nat.add_zero, Bool.not_true, Bool.not_false]
  refine ld1_r r2 rfl ?_
  simp only [beq_self_eq_true, e_fd, e_nck, e_pkt, e_pkf, e_gdtt, e_gdtf, e_gdft, e_gdff, e_ift, e_iff, e_not, e_ln, e_lnT, e_cp, e_cvi, e_ex20, e_ex21, e_ex30, e_ex31, e_ex32, e_add, e_sub, e_mul, e_quo, e_rem, e_and, e_or, e_xor, e_shl, e_shr, e_eql, e_neq, e_lss, e_leq, e_gtr, e_geq, e_beq, e_bne, e_peq1, e_peq2, e_pne1, e_pne2, e_zeq1, e_zeq2, e_zne1, e_zne2, e_feq1, e_fne1, e_feq2, e_fne2, e_seq, e_sne, e_ta1, e_ta2, Nat.zero_add, Nat.add_zero, Bool.not_true, Bool.not_false]
  refine ld1_r r1' rfl ?_
  try simp only [e_fd, e_nck, e_pkt, e_pkf, e_gdtt, e_gdtf, e_gdft, e_gdff, e_ift, e_iff, e_not, e_ln, e_lnT, e_cp, e_cvi, e_ex20, e_ex21, e_ex30, e_ex31, e_ex32, e_add, e_sub, e_mul, e_quo, e_rem, e_and, e_or, e_xor, e_shl, e_shr, e_eql, e_neq, e_lss, e_leq, e_gtr, e_geq, e_beq, e_bne, e_peq1, e_peq2, e_pne1, e_pne2, e_zeq1, e_zeq2, e_zne1, e_zne2, e_feq1, e_fne1, e_feq2, e_fne2, e_seq, e_sne, e_ta1, e_ta2, Nat.zero_add, Nat.add_zero, Bool.not_true, Bool.not_false]
  refine ld1_r r2 rfl ?_
  refine same_self (h1 w2 k2) (h2 w2 k2) fun w3 hk3 => ?_
  try simp only [e_fd, e_nck, e_pkt, e_pkf, e_gdtt, e_gdtf, e_gdft, e_gdff, e_ift, e_iff, e_not, e_ln, e_lnT, e_cp, e_cvi, e_ex20, e_ex21, e_ex30, e_ex31, e_ex32, e_add, e_sub, e_mul, e_quo, e_rem, e_and, e_or, e_xor, e_shl, e_shr, e_eql, e_neq, e_lss, e_leq, e_gtr, e_geq, e_beq, e_bne, e_peq1, e_peq2, e_pne1, e_pne2, e_zeq1, e_zeq2, e_zne1, e_zne2, e_feq1, e_fne1, e_feq2, e_fne2, e_seq, e_sne, e_ta1, e_ta2, Nat.zero_add, Nat.add_zero, Bool.not_true, Bool.not_false]
  exact hK w3 (k2.trans hk3)
theorem sameState_ok {x : Int} {f : Bool} {d1 d2 : Value} (h1 : Bs w d1 xs) (h2 : Bs w d2 xs) (hK : ∀ w', Kp (fun _ => False) w w' → K (.bool true) w') : cl Try.prog 15 #[.agg #[d1, I x, .bool f], .agg #[d2, I x, .bool f]] K w := by
  apply c15
  unfold s15_p1
  refine nw_r fun w1 r1 hk1 hz1 => ?_
  refine nw_r fun w2 r2 hk2 hz2 => ?_
  have r1' := hk2.row' r1
  have k2 := hk1.trans hk2
  try simp only [e_fd, e_nck, e_pkt, e_pkf, e_gdtt, e_gdtf, e_gdft, e_gdff, e_ift, e_iff, e_not, e_ln, e_lnT, e_cp, e_cvi, e_ex20, e_ex21, e_ex30, e_ex31, e_ex32, e_add, e_sub, e_mul, e_quo, e_rem, e_and, e_or, e_xor, e_shl, e_shr, e_eql, e_neq, e_lss, e_leq, e_gtr, e_geq, e_beq, e_bne, e_peq1, e_peq2, e_pne1, e_pne2, e_zeq1, e_zeq2, e_zne1, e_zne2, e_feq1, e_fne1, e_feq2, e_fne2, e_seq, e_sne, e_ta1, e_ta2, Nat.zero_add, Nat.add_zero, Bool.not_true, Bool.not_false]
  refine ld1_r r1' rfl ?_
  try simp only [e_fd, e_nck, e_pkt, e_pkf, e_gdtt, e_gdtf, e_gdft, e_gdff, e_ift, e_iff, e_not, e_ln, e_lnT, e_cp, e_cvi, e_ex20, e_ex21, e_ex30, e_ex31, e_ex32, e_add, e_sub, e_mul, e_quo, e_rem, e_and, e_or, e_xor, e_shl, e_shr, e_eql, e_neq, e_lss, e_leq, e_gtr, e_geq, e_beq, e_bne, e_peq1, e_peq2, e_pne1, e_pne2, e_zeq1, e_zeq2, e_zne1, e_zne2, e_feq1, e_fne1, e_feq2, e_fne2, e_seq, e_sne, e_ta1, e_ta2, Nat.zero_add, Nat.add_zero, Bool.not_true, Bool.not_false]
  refine ld1_r r2 rfl ?_
  refine same_self (h1.kp' k2) (h2.kp' k2) fun w3 hk3 => ?_
  try simp only [e_fd, e_nck, e_pkt, e_pkf, e_gdtt, e_gdtf, e_gdft, e_gdff, e_ift, e_iff, e_not, e_ln, e_lnT, e_cp, e_cvi, e_ex20, e_ex21, e_ex30, e_ex31, e_ex32, e_add, e_sub, e_mul, e_quo, e_rem, e_and, e_or, e_xor, e_shl, e_shr, e_eql, e_neq, e_lss, e_leq, e_gtr, e_geq, e_beq, e_bne, e_peq1, e_peq2, e_pne1, e_pne2, e_zeq1, e_zeq2, e_zne1, e_zne2, e_feq1, e_fne1, e_feq2, e_fne2, e_seq, e_sne, e_ta1, e_ta2, Nat.zero_add, Nat.add_zero, Bool.not_true, Bool.not_false]
  refine ld1_r (hk3.row' r1') rfl ?_
  try simp only [e_fd, e_nck, e_pkt, e_pkf, e_gdtt, e_gdtf, e_gdft, e_gdff, e_ift, e_iff, e_not, e_ln, e_lnT, e_cp, e_cvi, e_ex20, e_ex21, e_ex30, e_ex31, e_ex32, e_add, e_sub, e_mul, e_quo, e_rem, e_and, e_or, e_xor, e_shl, e_shr, e_eql, e_neq, e_lss, e_leq, e_gtr, e_geq, e_beq, e_bne, e_peq1, e_peq2, e_pne1, e_pne2, e_zeq1, e_zeq2, e_zne1, e_zne2, e_feq1, e_fne1, e_feq2, e_fne2, e_seq, e_sne, e_ta1, e_ta2, Nat.zero_add, Nat.add_zero, Bool.not_true, Bool.not_false]
  refine ld1_r (hk3.row' r2) rfl ?_
  simp only [beq_self_eq_true, e_fd, e_nck, e_pkt, e_pkf, e_gdtt, e_gdtf, e_gdft, e_gdff, e_ift, e_iff, e_not, e_ln, e_lnT, e_cp, e_cvi, e_ex20, e_ex21, e_ex30, e_ex31, e_ex32, e_add, e_sub, e_mul, e_quo, e_rem, e_and, e_or, e_xor, e_shl, e_shr, e_eql, e_neq, e_lss, e_leq, e_gtr, e_geq, e_beq, e_bne, e_peq1, e_peq2, e_pne1, e_pne2, e_zeq1, e_zeq2, e_zne1, e_zne2, e_feq1, e_fne1, e_feq2, e_fne2, e_seq, e_sne, e_ta1, e_ta2, Nat.zero_add, Nat.add_zero, Bool.not_true, Bool.not_false]
  refine ld1_r (hk3.row' r1') rfl ?_
  try simp only [e_fd, e_nck, e_pkt, e_pkf, e_gdtt, e_gdtf, e_gdft, e_gdff, e_ift, e_iff, e_not, e_ln, e_lnT, e_cp, e_cvi, e_ex20, e_ex21, e_ex30, e_ex31, e_ex32, e_add, e_sub, e_mul, e_quo, e_rem, e_and, e_or, e_xor, e_shl, e_shr, e_eql, e_neq, e_lss, e_leq, e_gtr, e_geq, e_beq, e_bne, e_peq1, e_peq2, e_pne1, e_pne2, e_zeq1, e_zeq2, e_zne1, e_zne2, e_feq1, e_fne1, e_feq2, e_fne2, e_seq, e_sne, e_ta1, e_ta2, Nat.zero_add, Nat.add_zero, Bool.not_true, Bool.not_false]
  refine ld1_r (hk3.row' r2) rfl ?_
  simp only [beq_self_eq_true, e_fd, e_nck, e_pkt, e_pkf, e_gdtt, e_gdtf, e_gdft, e_gdff, e_ift, e_iff, e_not, e_ln, e_lnT, e_cp, e_cvi, e_ex20, e_ex21, e_ex30, e_ex31, e_ex32, e_add, e_sub, e_mul, e_quo, e_rem, e_and, e_or, e_xor, e_shl, e_shr, e_eql, e_neq, e_lss, e_leq, e_gtr, e_geq, e_beq, e_bne, e_peq1, e_peq2, e_pne1, e_pne2, e_zeq1, e_zeq2, e_zne1, e_zne2, e_feq1, e_fne1, e_feq2, e_fne2, e_seq, e_sne, e_ta1, e_ta2, Nat.zero_add, Nat.add_zero, Bool.not_true, Bool.not_false]
  exact hK w3 (k2.trans hk3)
end
end Go.Proofs.Qxb6500898a
