import Derived.Test.Qxb6500896aGreatK19
import Derived.Test.Qxb6500896aGreatGj
namespace Go.Proofs.Qxb6500896aGreat
open Go.Sh Go.RowKit
set_option linter.unusedVariables false
set_option linter.unusedSimpArgs false

abbrev S3 (b : Nat) : Value := .slice (some ⟨b, 0, none⟩) 3 3
/-- the configuration of the theorems in a block of its own -/
structure PM (w : World) (cb ab tb r0 r1 r2 : Nat) : Prop where
  c : Row w cb 34 (park.cells (S3 ab) (S3 tb))
  a : Row w ab 113 (rows Att.cells parkA)
  t : Row w tb 79 [S3 r0, S3 r1, S3 r2]
  x0 : Row w r0 3 [I 0, I 1, I 2]
  x1 : Row w r1 3 [I 1, I 0, I 1]
  x2 : Row w r2 3 [I 3, I 1, I 0]
  d02 : r0 ≠ r2
  d12 : r1 ≠ r2
abbrev PF (ab tb r0 r1 r2 : Nat) : Nat → Prop := fun b => b = ab ∨ b = tb ∨ b = r0 ∨ b = r1 ∨ b = r2
/-- a configuration that no engine takes -/
def Bad (F : Nat → Prop) (w : World) (cb : Nat) : Prop := ∃ C l, Row w cb 34 l ∧ Cg F w l C ∧ vCfg C = false ∧ small C.hz
/-- one of the changes that spoil it -/
def Spoils (f : Nat) : Prop := ∀ (w : World) (cb ab tb r0 r1 r2 : Nat) (K : Value → World → Prop), PM w cb ab tb r0 r1 r2 →
  (∀ w', Kp (fun b => PF ab tb r0 r1 r2 b ∨ b = cb) w w' → Bad (PF ab tb r0 r1 r2) w' cb → K (.tuple #[]) w') → cl Tryz.prog f #[P cb 0] K w
section
variable {F S : Nat → Prop} {w w' : World} {cb ab tb r0 r1 r2 : Nat} {K : Value → World → Prop}
theorem PM.kp (h : PM w cb ab tb r0 r1 r2) (hk : Kp Emp w w') : PM w' cb ab tb r0 r1 r2 := ⟨hk.row' h.c, hk.row' h.a, hk.row' h.t, hk.row' h.x0, hk.row' h.x1, hk.row' h.x2, h.d02, h.d12⟩
theorem pm_rws (h1 : Row w r0 3 [I 0, I 1, I 2]) (h2 : Row w r1 3 [I 1, I 0, I 1]) (h3 : Row w r2 3 [I 3, I 1, I 0]) (ht : Row w tb 79 [S3 r0, S3 r1, S3 r2]) : Rws (PF ab tb r0 r1 r2) w (S3 tb) parkT :=
  park_rws h1 h2 h3 ht (.inr (.inr (.inl rfl))) (.inr (.inr (.inr (.inl rfl)))) (.inr (.inr (.inr (.inr rfl)))) (.inr (.inl rfl))
theorem pm_ats (ha : Row w ab 113 (rows Att.cells parkA)) : Ar Att.cells 5 (PF ab tb r0 r1 r2) w (S3 ab) parkA := Ar.row (xs := parkA) Att.len ha (.inl rfl) (by decide)
/-- a scalar field of it -/
theorem pm_st {o : Nat} {x : Value} (C : Cfg) (h : PM w cb ab tb r0 r1 r2) (ho : o < 14) (hx : scal x = true) (e1 : ∀ va vt, (park.cells va vt).set o x = C.cells va vt) (e2 : C.ats = parkA) (e3 : C.tr = parkT) (hv : vCfg C = false) (hh : small C.hz)
    (hK : ∀ w', Kp (fun b => PF ab tb r0 r1 r2 b ∨ b = cb) w w' → Bad (PF ab tb r0 r1 r2) w' cb → K (.tuple #[]) w') : st1 (P cb o) x (fun w => K (.tuple #[]) w) w := by
  refine st1_r h.c ho hx fun w1 r1' hk1 hz1 => ?_
  rw [e1] at r1'
  have na : ab ≠ cb := row_ne h.a h.c (by decide)
  have nt : tb ≠ cb := row_ne h.t h.c (by decide)
  have n0 : r0 ≠ cb := row_ne h.x0 h.c (by decide)
  have n1 : r1 ≠ cb := row_ne h.x1 h.c (by decide)
  have n2 : r2 ≠ cb := row_ne h.x2 h.c (by decide)
  refine hK w1 (hk1.mono fun b _ q => .inr q) ⟨C, _, r1', ⟨_, _, rfl, ?_, ?_⟩, hv, hh⟩
  · rw [e2]; exact pm_ats (hk1.row h.a na)
  · rw [e3]; exact pm_rws (hk1.row h.x0 n0) (hk1.row h.x1 n1) (hk1.row h.x2 n2) (hk1.row h.t nt)
theorem pm_ix {i : Nat} {Q : Value → World → Prop} (h : PM w cb ab tb r0 r1 r2) (hi : i < 3) (hK : Q (P ab (5 * i)) w) : ixs 5 (S3 ab) (I i) Q w := by
  refine ⟨⟨by omega, by omega⟩, ?_⟩
  have e1 : ((i : Int)).toNat = i := by omega
  rw [e1, add_mk, Nat.zero_add, Nat.mul_comm]
  exact hK
/-- a field of an attraction -/
theorem pm_sa {o : Nat} {x : Value} (A : List Att) (h : PM w cb ab tb r0 r1 r2) (ho : o < 15) (hx : scal x = true) (e1 : (rows Att.cells parkA).set o x = rows Att.cells A) (el : A.length = 3) (hv : vCfg { park with ats := A } = false)
    (hK : ∀ w', Kp (fun b => PF ab tb r0 r1 r2 b ∨ b = cb) w w' → Bad (PF ab tb r0 r1 r2) w' cb → K (.tuple #[]) w') : st1 (P ab o) x (fun w => K (.tuple #[]) w) w := by
  refine st1_r h.a ho hx fun w1 r1' hk1 hz1 => ?_
  rw [e1] at r1'
  have na : cb ≠ ab := row_ne h.c h.a (by decide)
  have nt : tb ≠ ab := row_ne h.t h.a (by decide)
  have n0 : r0 ≠ ab := row_ne h.x0 h.a (by decide)
  have n1 : r1 ≠ ab := row_ne h.x1 h.a (by decide)
  have n2 : r2 ≠ ab := row_ne h.x2 h.a (by decide)
  refine hK w1 (hk1.mono fun b _ q => .inl (.inl q)) ⟨{ park with ats := A }, _, hk1.row h.c na, ⟨_, _, rfl, ?_, ?_⟩, hv, (show small 8 by constructor <;> decide)⟩
  · have := Ar.row (F := PF ab tb r0 r1 r2) (xs := A) Att.len r1' (.inl rfl) (by omega)
    rw [el] at this
    exact this
  · exact pm_rws (hk1.row h.x0 n0) (hk1.row h.x1 n1) (hk1.row h.x2 n2) (hk1.row h.t nt)
theorem sp1 : Spoils 61 := by
  intro w cb ab tb r0 r1 r2 K h hK
  apply c61
  unfold s61_p1
  try simp only [e_fd, e_nck, e_pkt, e_pkf, e_gdtt, e_gdtf, e_gdft, e_gdff, e_ift, e_iff, e_not, e_ln, e_lnT, e_cp, e_cvi, e_ex20, e_ex21, e_ex30, e_ex31, e_ex32, e_add, e_sub, e_mul, e_quo, e_rem, e_and, e_or, e_xor, e_shl, e_shr, e_eql, e_neq, e_lss, e_leq, e_gtr, e_geq, e_beq, e_bne, e_peq1, e_peq2, e_pne1, e_pne2, e_zeq1, e_zeq2, e_zne1, e_zne2, e_feq1, e_fne1, e_feq2, e_fne2, e_seq, e_sne, e_ta1, e_ta2, Nat.zero_add, Nat.add_zero, Bool.not_true, Bool.not_false]
  refine st1_r h.c (show 0 < 14 by decide) rfl fun w1 r1' hk1 hz1 => ?_
  have nt : tb ≠ cb := row_ne h.t h.c (by decide)
  have n0 : r0 ≠ cb := row_ne h.x0 h.c (by decide)
  have n1 : r1 ≠ cb := row_ne h.x1 h.c (by decide)
  have n2 : r2 ≠ cb := row_ne h.x2 h.c (by decide)
  exact hK w1 (hk1.mono fun b _ q => .inr q) ⟨{ park with ats := [] }, _, r1', ⟨nilS, _, rfl, Ar.nil, pm_rws (hk1.row h.x0 n0) (hk1.row h.x1 n1) (hk1.row h.x2 n2) (hk1.row h.t nt)⟩, by decide, by constructor <;> decide⟩
theorem sp2 : Spoils 62 := by
  intro w cb ab tb r0 r1 r2 K h hK
  apply c62
  unfold s62_p1
  try simp only [e_fd, e_nck, e_pkt, e_pkf, e_gdtt, e_gdtf, e_gdft, e_gdff, e_ift, e_iff, e_not, e_ln, e_lnT, e_cp, e_cvi, e_ex20, e_ex21, e_ex30, e_ex31, e_ex32, e_add, e_sub, e_mul, e_quo, e_rem, e_and, e_or, e_xor, e_shl, e_shr, e_eql, e_neq, e_lss, e_leq, e_gtr, e_geq, e_beq, e_bne, e_peq1, e_peq2, e_pne1, e_pne2, e_zeq1, e_zeq2, e_zne1, e_zne2, e_feq1, e_fne1, e_feq2, e_fne2, e_seq, e_sne, e_ta1, e_ta2, Nat.zero_add, Nat.add_zero, Bool.not_true, Bool.not_false]
  refine ld1_r h.c rfl ?_
  refine pm_ix (i := 0) h (by decide) ?_
  try simp only [e_fd, e_nck, e_pkt, e_pkf, e_gdtt, e_gdtf, e_gdft, e_gdff, e_ift, e_iff, e_not, e_ln, e_lnT, e_cp, e_cvi, e_ex20, e_ex21, e_ex30, e_ex31, e_ex32, e_add, e_sub, e_mul, e_quo, e_rem, e_and, e_or, e_xor, e_shl, e_shr, e_eql, e_neq, e_lss, e_leq, e_gtr, e_geq, e_beq, e_bne, e_peq1, e_peq2, e_pne1, e_pne2, e_zeq1, e_zeq2, e_zne1, e_zne2, e_feq1, e_fne1, e_feq2, e_fne2, e_seq, e_sne, e_ta1, e_ta2, Nat.zero_add, Nat.add_zero, Bool.not_true, Bool.not_false]
  exact pm_sa [⟨0, 1, 8, 4, 6⟩, ⟨10, 3, 10, 5, 6⟩, ⟨6, 2, 6, 6, 3⟩] h (by simp) rfl rfl rfl (by decide) hK
theorem sp3 : Spoils 63 := by
  intro w cb ab tb r0 r1 r2 K h hK
  apply c63
  unfold s63_p1
  try simp only [e_fd, e_nck, e_pkt, e_pkf, e_gdtt, e_gdtf, e_gdft, e_gdff, e_ift, e_iff, e_not, e_ln, e_lnT, e_cp, e_cvi, e_ex20, e_ex21, e_ex30, e_ex31, e_ex32, e_add, e_sub, e_mul, e_quo, e_rem, e_and, e_or, e_xor, e_shl, e_shr, e_eql, e_neq, e_lss, e_leq, e_gtr, e_geq, e_beq, e_bne, e_peq1, e_peq2, e_pne1, e_pne2, e_zeq1, e_zeq2, e_zne1, e_zne2, e_feq1, e_fne1, e_feq2, e_fne2, e_seq, e_sne, e_ta1, e_ta2, Nat.zero_add, Nat.add_zero, Bool.not_true, Bool.not_false]
  refine ld1_r h.c rfl ?_
  refine pm_ix (i := 1) h (by decide) ?_
  try simp only [e_fd, e_nck, e_pkt, e_pkf, e_gdtt, e_gdtf, e_gdft, e_gdff, e_ift, e_iff, e_not, e_ln, e_lnT, e_cp, e_cvi, e_ex20, e_ex21, e_ex30, e_ex31, e_ex32, e_add, e_sub, e_mul, e_quo, e_rem, e_and, e_or, e_xor, e_shl, e_shr, e_eql, e_neq, e_lss, e_leq, e_gtr, e_geq, e_beq, e_bne, e_peq1, e_peq2, e_pne1, e_pne2, e_zeq1, e_zeq2, e_zne1, e_zne2, e_feq1, e_fne1, e_feq2, e_fne2, e_seq, e_sne, e_ta1, e_ta2, Nat.zero_add, Nat.add_zero, Bool.not_true, Bool.not_false]
  exact pm_sa [⟨8, 1, 8, 4, 6⟩, ⟨10, 0, 10, 5, 6⟩, ⟨6, 2, 6, 6, 3⟩] h (by simp) rfl rfl rfl (by decide) hK
theorem sp4 : Spoils 64 := by
  intro w cb ab tb r0 r1 r2 K h hK
  apply c64
  unfold s64_p1
  try simp only [e_fd, e_nck, e_pkt, e_pkf, e_gdtt, e_gdtf, e_gdft, e_gdff, e_ift, e_iff, e_not, e_ln, e_lnT, e_cp, e_cvi, e_ex20, e_ex21, e_ex30, e_ex31, e_ex32, e_add, e_sub, e_mul, e_quo, e_rem, e_and, e_or, e_xor, e_shl, e_shr, e_eql, e_neq, e_lss, e_leq, e_gtr, e_geq, e_beq, e_bne, e_peq1, e_peq2, e_pne1, e_pne2, e_zeq1, e_zeq2, e_zne1, e_zne2, e_feq1, e_fne1, e_feq2, e_fne2, e_seq, e_sne, e_ta1, e_ta2, Nat.zero_add, Nat.add_zero, Bool.not_true, Bool.not_false]
  refine ld1_r h.c rfl ?_
  refine pm_ix (i := 2) h (by decide) ?_
  try simp only [e_fd, e_nck, e_pkt, e_pkf, e_gdtt, e_gdtf, e_gdft, e_gdff, e_ift, e_iff, e_not, e_ln, e_lnT, e_cp, e_cvi, e_ex20, e_ex21, e_ex30, e_ex31, e_ex32, e_add, e_sub, e_mul, e_quo, e_rem, e_and, e_or, e_xor, e_shl, e_shr, e_eql, e_neq, e_lss, e_leq, e_gtr, e_geq, e_beq, e_bne, e_peq1, e_peq2, e_pne1, e_pne2, e_zeq1, e_zeq2, e_zne1, e_zne2, e_feq1, e_fne1, e_feq2, e_fne2, e_seq, e_sne, e_ta1, e_ta2, Nat.zero_add, Nat.add_zero, Bool.not_true, Bool.not_false]
  refine ⟨⟨by decide, by decide⟩, ?_⟩
  exact pm_sa [⟨8, 1, 8, 4, 6⟩, ⟨10, 3, 10, 5, 6⟩, ⟨6, 2, 6, -1, 3⟩] h (by simp) rfl rfl rfl (by decide) hK
theorem sp5 : Spoils 65 := by
  intro w cb ab tb r0 r1 r2 K h hK
  apply c65
  unfold s65_p1
  try simp only [e_fd, e_nck, e_pkt, e_pkf, e_gdtt, e_gdtf, e_gdft, e_gdff, e_ift, e_iff, e_not, e_ln, e_lnT, e_cp, e_cvi, e_ex20, e_ex21, e_ex30, e_ex31, e_ex32, e_add, e_sub, e_mul, e_quo, e_rem, e_and, e_or, e_xor, e_shl, e_shr, e_eql, e_neq, e_lss, e_leq, e_gtr, e_geq, e_beq, e_bne, e_peq1, e_peq2, e_pne1, e_pne2, e_zeq1, e_zeq2, e_zne1, e_zne2, e_feq1, e_fne1, e_feq2, e_fne2, e_seq, e_sne, e_ta1, e_ta2, Nat.zero_add, Nat.add_zero, Bool.not_true, Bool.not_false]
  refine ld1_r h.c rfl ?_
  refine sls_mk (l := 0) (h := 2) rfl rfl ⟨by simp, by simp, by simp⟩ ?_
  try simp only [e_fd, e_nck, e_pkt, e_pkf, e_gdtt, e_gdtf, e_gdft, e_gdff, e_ift, e_iff, e_not, e_ln, e_lnT, e_cp, e_cvi, e_ex20, e_ex21, e_ex30, e_ex31, e_ex32, e_add, e_sub, e_mul, e_quo, e_rem, e_and, e_or, e_xor, e_shl, e_shr, e_eql, e_neq, e_lss, e_leq, e_gtr, e_geq, e_beq, e_bne, e_peq1, e_peq2, e_pne1, e_pne2, e_zeq1, e_zeq2, e_zne1, e_zne2, e_feq1, e_fne1, e_feq2, e_fne2, e_seq, e_sne, e_ta1, e_ta2, Nat.zero_add, Nat.add_zero, Bool.not_true, Bool.not_false]
  refine st1_r h.c (show 1 < 14 by decide) rfl fun w1 r1' hk1 hz1 => ?_
  have na : ab ≠ cb := row_ne h.a h.c (by decide)
  have nt : tb ≠ cb := row_ne h.t h.c (by decide)
  have n0 : r0 ≠ cb := row_ne h.x0 h.c (by decide)
  have n1 : r1 ≠ cb := row_ne h.x1 h.c (by decide)
  have n2 : r2 ≠ cb := row_ne h.x2 h.c (by decide)
  have q := pm_rws (ab := ab) (hk1.row h.x0 n0) (hk1.row h.x1 n1) (hk1.row h.x2 n2) (hk1.row h.t nt)
  refine hK w1 (hk1.mono fun b _ q => .inr q) ⟨{ park with tr := [[0, 1, 2], [1, 0, 1]] }, _, r1', ⟨_, _, rfl, pm_ats (hk1.row h.a na), ?_⟩, by decide, by constructor <;> decide⟩
  refine ⟨[S3 r0, S3 r1], Sl.ar (ob := some tb) (e := 79) one_len ⟨3, [S3 r2], rfl, by simp, by simp, hk1.row h.t nt⟩ (by simp) (fun b e => by cases e; exact .inr (.inl rfl)), rfl, fun i hi hi2 => ?_⟩
  match i, hi with
  | 0, _ => exact Ar.row (xs := [0, 1, 2]) iC_len (hk1.row h.x0 n0) (.inr (.inr (.inl rfl))) (by decide)
  | 1, _ => exact Ar.row (xs := [1, 0, 1]) iC_len (hk1.row h.x1 n1) (.inr (.inr (.inr (.inl rfl)))) (by decide)
theorem sp6 : Spoils 66 := by
  intro w cb ab tb r0 r1 r2 K h hK
  apply c66
  unfold s66_p1 s66_p1_d
  have kd : Kp Emp w (drw w) := kp_drw
  generalize drw w = w0 at kd ⊢
  have h := h.kp kd
  try simp only [e_fd, e_nck, e_pkt, e_pkf, e_gdtt, e_gdtf, e_gdft, e_gdff, e_ift, e_iff, e_not, e_ln, e_lnT, e_cp, e_cvi, e_ex20, e_ex21, e_ex30, e_ex31, e_ex32, e_add, e_sub, e_mul, e_quo, e_rem, e_and, e_or, e_xor, e_shl, e_shr, e_eql, e_neq, e_lss, e_leq, e_gtr, e_geq, e_beq, e_bne, e_peq1, e_peq2, e_pne1, e_pne2, e_zeq1, e_zeq2, e_zne1, e_zne2, e_feq1, e_fne1, e_feq2, e_fne2, e_seq, e_sne, e_ta1, e_ta2, Nat.zero_add, Nat.add_zero, Bool.not_true, Bool.not_false]
  refine ld1_r h.c rfl ?_
  try simp only [e_fd, e_nck, e_pkt, e_pkf, e_gdtt, e_gdtf, e_gdft, e_gdff, e_ift, e_iff, e_not, e_ln, e_lnT, e_cp, e_cvi, e_ex20, e_ex21, e_ex30, e_ex31, e_ex32, e_add, e_sub, e_mul, e_quo, e_rem, e_and, e_or, e_xor, e_shl, e_shr, e_eql, e_neq, e_lss, e_leq, e_gtr, e_geq, e_beq, e_bne, e_peq1, e_peq2, e_pne1, e_pne2, e_zeq1, e_zeq2, e_zne1, e_zne2, e_feq1, e_fne1, e_feq2, e_fne2, e_seq, e_sne, e_ta1, e_ta2, Nat.zero_add, Nat.add_zero, Bool.not_true, Bool.not_false]
  refine ld1_r h.c rfl ?_
  refine ⟨⟨by decide, by decide⟩, ?_⟩
  refine ld1_r h.t rfl ?_
  refine sls_mk (l := 0) (h := 2) rfl rfl ⟨by simp, by simp, by simp⟩ ?_
  refine ⟨⟨by decide, by decide⟩, ?_⟩
  refine st1_r h.t (show 0 + 1 < 3 by decide) rfl fun w1 rt hk1 hz1 => ?_
  have na : ab ≠ tb := row_ne h.a h.t (by decide)
  have nc : cb ≠ tb := row_ne h.c h.t (by decide)
  have n0 : r0 ≠ tb := row_ne h.x0 h.t (by decide)
  have n1 : r1 ≠ tb := row_ne h.x1 h.t (by decide)
  have n2 : r2 ≠ tb := row_ne h.x2 h.t (by decide)
  refine hK w1 (kd.none.trans (hk1.mono fun b _ q => .inl (.inr (.inl q)))) ⟨{ park with tr := [[0, 1, 2], [1, 0], [3, 1, 0]] }, _, hk1.row h.c nc, ⟨_, _, rfl, pm_ats (hk1.row h.a na), ?_⟩, by decide, by constructor <;> decide⟩
  refine ⟨[S3 r0, .slice (some ⟨r1, 0, none⟩) 2 3, S3 r2], Ar.row (xs := [S3 r0, .slice (some ⟨r1, 0, none⟩) 2 3, S3 r2]) one_len rt (.inr (.inl rfl)) (by simp), rfl, fun i hi hi2 => ?_⟩
  match i, hi with
  | 0, _ => exact Ar.row (xs := [0, 1, 2]) iC_len (hk1.row h.x0 n0) (.inr (.inr (.inl rfl))) (by decide)
  | 1, _ => exact Sl.ar (ob := some r1) (e := 3) (xs := [1, 0]) iC_len ⟨3, [I 1], rfl, by decide, by decide, hk1.row h.x1 n1⟩ (by decide) (fun b e => by cases e; exact .inr (.inr (.inr (.inl rfl))))
  | 2, _ => exact Ar.row (xs := [3, 1, 0]) iC_len (hk1.row h.x2 n2) (.inr (.inr (.inr (.inr rfl)))) (by decide)
theorem sp7 : Spoils 67 := by
  intro w cb ab tb r0 r1 r2 K h hK
  apply c67
  unfold s67_p1
  try simp only [e_fd, e_nck, e_pkt, e_pkf, e_gdtt, e_gdtf, e_gdft, e_gdff, e_ift, e_iff, e_not, e_ln, e_lnT, e_cp, e_cvi, e_ex20, e_ex21, e_ex30, e_ex31, e_ex32, e_add, e_sub, e_mul, e_quo, e_rem, e_and, e_or, e_xor, e_shl, e_shr, e_eql, e_neq, e_lss, e_leq, e_gtr, e_geq, e_beq, e_bne, e_peq1, e_peq2, e_pne1, e_pne2, e_zeq1, e_zeq2, e_zne1, e_zne2, e_feq1, e_fne1, e_feq2, e_fne2, e_seq, e_sne, e_ta1, e_ta2, Nat.zero_add, Nat.add_zero, Bool.not_true, Bool.not_false]
  refine ld1_r h.c rfl ?_
  refine ⟨⟨by decide, by decide⟩, ?_⟩
  refine ld1_r h.t rfl ?_
  refine ⟨⟨by decide, by decide⟩, ?_⟩
  refine st1_r h.x2 (show 0 < 3 by decide) rfl fun w1 rx hk1 hz1 => ?_
  have na : ab ≠ r2 := row_ne h.a h.x2 (by decide)
  have nc : cb ≠ r2 := row_ne h.c h.x2 (by decide)
  have nt : tb ≠ r2 := row_ne h.t h.x2 (by decide)
  refine hK w1 (hk1.mono fun b _ q => .inl (.inr (.inr (.inr (.inr q))))) ⟨{ park with tr := [[0, 1, 2], [1, 0, 1], [-1, 1, 0]] }, _, hk1.row h.c nc, ⟨_, _, rfl, pm_ats (hk1.row h.a na), ?_⟩, by decide, by constructor <;> decide⟩
  refine ⟨[S3 r0, S3 r1, S3 r2], Ar.row (xs := [S3 r0, S3 r1, S3 r2]) one_len (hk1.row h.t nt) (.inr (.inl rfl)) (by simp), rfl, fun i hi hi2 => ?_⟩
  match i, hi with
  | 0, _ => exact Ar.row (xs := [0, 1, 2]) iC_len (hk1.row h.x0 h.d02) (.inr (.inr (.inl rfl))) (by decide)
  | 1, _ => exact Ar.row (xs := [1, 0, 1]) iC_len (hk1.row h.x1 h.d12) (.inr (.inr (.inr (.inl rfl)))) (by decide)
  | 2, _ => exact Ar.row (xs := [-1, 1, 0]) iC_len rx (.inr (.inr (.inr (.inr rfl)))) (by decide)
theorem sp8 : Spoils 68 := by
  intro w cb ab tb r0 r1 r2 K h hK
  apply c68
  unfold s68_p1
  try simp only [e_fd, e_nck, e_pkt, e_pkf, e_gdtt, e_gdtf, e_gdft, e_gdff, e_ift, e_iff, e_not, e_ln, e_lnT, e_cp, e_cvi, e_ex20, e_ex21, e_ex30, e_ex31, e_ex32, e_add, e_sub, e_mul, e_quo, e_rem, e_and, e_or, e_xor, e_shl, e_shr, e_eql, e_neq, e_lss, e_leq, e_gtr, e_geq, e_beq, e_bne, e_peq1, e_peq2, e_pne1, e_pne2, e_zeq1, e_zeq2, e_zne1, e_zne2, e_feq1, e_fne1, e_feq2, e_fne2, e_seq, e_sne, e_ta1, e_ta2, Nat.zero_add, Nat.add_zero, Bool.not_true, Bool.not_false]
  exact pm_st { park with hz := 1 } h (by decide) rfl (fun _ _ => rfl) rfl rfl (by decide) (by constructor <;> decide) hK
theorem sp9 : Spoils 69 := by
  intro w cb ab tb r0 r1 r2 K h hK
  apply c69
  unfold s69_p1
  try simp only [e_fd, e_nck, e_pkt, e_pkf, e_gdtt, e_gdtf, e_gdft, e_gdff, e_ift, e_iff, e_not, e_ln, e_lnT, e_cp, e_cvi, e_ex20, e_ex21, e_ex30, e_ex31, e_ex32, e_add, e_sub, e_mul, e_quo, e_rem, e_and, e_or, e_xor, e_shl, e_shr, e_eql, e_neq, e_lss, e_leq, e_gtr, e_geq, e_beq, e_bne, e_peq1, e_peq2, e_pne1, e_pne2, e_zeq1, e_zeq2, e_zne1, e_zne2, e_feq1, e_fne1, e_feq2, e_fne2, e_seq, e_sne, e_ta1, e_ta2, Nat.zero_add, Nat.add_zero, Bool.not_true, Bool.not_false]
  refine ld1_r h.c rfl ?_
  try simp only [e_fd, e_nck, e_pkt, e_pkf, e_gdtt, e_gdtf, e_gdft, e_gdff, e_ift, e_iff, e_not, e_ln, e_lnT, e_cp, e_cvi, e_ex20, e_ex21, e_ex30, e_ex31, e_ex32, e_add, e_sub, e_mul, e_quo, e_rem, e_and, e_or, e_xor, e_shl, e_shr, e_eql, e_neq, e_lss, e_leq, e_gtr, e_geq, e_beq, e_bne, e_peq1, e_peq2, e_pne1, e_pne2, e_zeq1, e_zeq2, e_zne1, e_zne2, e_feq1, e_fne1, e_feq2, e_fne2, e_seq, e_sne, e_ta1, e_ta2, Nat.zero_add, Nat.add_zero, Bool.not_true, Bool.not_false]
  exact pm_st { park with of := 8 } h (by decide) rfl (fun _ _ => rfl) rfl rfl (by decide) (by constructor <;> decide) hK
theorem sp10 : Spoils 70 := by
  intro w cb ab tb r0 r1 r2 K h hK
  apply c70
  unfold s70_p1
  try simp only [e_fd, e_nck, e_pkt, e_pkf, e_gdtt, e_gdtf, e_gdft, e_gdff, e_ift, e_iff, e_not, e_ln, e_lnT, e_cp, e_cvi, e_ex20, e_ex21, e_ex30, e_ex31, e_ex32, e_add, e_sub, e_mul, e_quo, e_rem, e_and, e_or, e_xor, e_shl, e_shr, e_eql, e_neq, e_lss, e_leq, e_gtr, e_geq, e_beq, e_bne, e_peq1, e_peq2, e_pne1, e_pne2, e_zeq1, e_zeq2, e_zne1, e_zne2, e_feq1, e_fne1, e_feq2, e_fne2, e_seq, e_sne, e_ta1, e_ta2, Nat.zero_add, Nat.add_zero, Bool.not_true, Bool.not_false]
  exact pm_st { park with of := 0 } h (by decide) rfl (fun _ _ => rfl) rfl rfl (by decide) (by constructor <;> decide) hK
theorem sp11 : Spoils 71 := by
  intro w cb ab tb r0 r1 r2 K h hK
  apply c71
  unfold s71_p1
  try simp only [e_fd, e_nck, e_pkt, e_pkf, e_gdtt, e_gdtf, e_gdft, e_gdff, e_ift, e_iff, e_not, e_ln, e_lnT, e_cp, e_cvi, e_ex20, e_ex21, e_ex30, e_ex31, e_ex32, e_add, e_sub, e_mul, e_quo, e_rem, e_and, e_or, e_xor, e_shl, e_shr, e_eql, e_neq, e_lss, e_leq, e_gtr, e_geq, e_beq, e_bne, e_peq1, e_peq2, e_pne1, e_pne2, e_zeq1, e_zeq2, e_zne1, e_zne2, e_feq1, e_fne1, e_feq2, e_fne2, e_seq, e_sne, e_ta1, e_ta2, Nat.zero_add, Nat.add_zero, Bool.not_true, Bool.not_false]
  exact pm_st { park with mc := -1 } h (by decide) rfl (fun _ _ => rfl) rfl rfl (by decide) (by constructor <;> decide) hK
theorem sp12 : Spoils 72 := by
  intro w cb ab tb r0 r1 r2 K h hK
  apply c72
  unfold s72_p1
  try simp only [e_fd, e_nck, e_pkt, e_pkf, e_gdtt, e_gdtf, e_gdft, e_gdff, e_ift, e_iff, e_not, e_ln, e_lnT, e_cp, e_cvi, e_ex20, e_ex21, e_ex30, e_ex31, e_ex32, e_add, e_sub, e_mul, e_quo, e_rem, e_and, e_or, e_xor, e_shl, e_shr, e_eql, e_neq, e_lss, e_leq, e_gtr, e_geq, e_beq, e_bne, e_peq1, e_peq2, e_pne1, e_pne2, e_zeq1, e_zeq2, e_zne1, e_zne2, e_feq1, e_fne1, e_feq2, e_fne2, e_seq, e_sne, e_ta1, e_ta2, Nat.zero_add, Nat.add_zero, Bool.not_true, Bool.not_false]
  exact pm_st { park with mp := 0 } h (by decide) rfl (fun _ _ => rfl) rfl rfl (by decide) (by constructor <;> decide) hK
theorem sp13 : Spoils 73 := by
  intro w cb ab tb r0 r1 r2 K h hK
  apply c73
  unfold s73_p1
  try simp only [e_fd, e_nck, e_pkt, e_pkf, e_gdtt, e_gdtf, e_gdft, e_gdff, e_ift, e_iff, e_not, e_ln, e_lnT, e_cp, e_cvi, e_ex20, e_ex21, e_ex30, e_ex31, e_ex32, e_add, e_sub, e_mul, e_quo, e_rem, e_and, e_or, e_xor, e_shl, e_shr, e_eql, e_neq, e_lss, e_leq, e_gtr, e_geq, e_beq, e_bne, e_peq1, e_peq2, e_pne1, e_pne2, e_zeq1, e_zeq2, e_zne1, e_zne2, e_feq1, e_fne1, e_feq2, e_fne2, e_seq, e_sne, e_ta1, e_ta2, Nat.zero_add, Nat.add_zero, Bool.not_true, Bool.not_false]
  exact pm_st { park with ml := 0 } h (by decide) rfl (fun _ _ => rfl) rfl rfl (by decide) (by constructor <;> decide) hK
theorem sp14 : Spoils 74 := by
  intro w cb ab tb r0 r1 r2 K h hK
  apply c74
  unfold s74_p1
  try simp only [e_fd, e_nck, e_pkt, e_pkf, e_gdtt, e_gdtf, e_gdft, e_gdff, e_ift, e_iff, e_not, e_ln, e_lnT, e_cp, e_cvi, e_ex20, e_ex21, e_ex30, e_ex31, e_ex32, e_add, e_sub, e_mul, e_quo, e_rem, e_and, e_or, e_xor, e_shl, e_shr, e_eql, e_neq, e_lss, e_leq, e_gtr, e_geq, e_beq, e_bne, e_peq1, e_peq2, e_pne1, e_pne2, e_zeq1, e_zeq2, e_zne1, e_zne2, e_feq1, e_fne1, e_feq2, e_fne2, e_seq, e_sne, e_ta1, e_ta2, Nat.zero_add, Nat.add_zero, Bool.not_true, Bool.not_false]
  exact pm_st { park with ml := 9 } h (by decide) rfl (fun _ _ => rfl) rfl rfl (by decide) (by constructor <;> decide) hK
theorem sp15 : Spoils 75 := by
  intro w cb ab tb r0 r1 r2 K h hK
  apply c75
  unfold s75_p1
  try simp only [e_fd, e_nck, e_pkt, e_pkf, e_gdtt, e_gdtf, e_gdft, e_gdff, e_ift, e_iff, e_not, e_ln, e_lnT, e_cp, e_cvi, e_ex20, e_ex21, e_ex30, e_ex31, e_ex32, e_add, e_sub, e_mul, e_quo, e_rem, e_and, e_or, e_xor, e_shl, e_shr, e_eql, e_neq, e_lss, e_leq, e_gtr, e_geq, e_beq, e_bne, e_peq1, e_peq2, e_pne1, e_pne2, e_zeq1, e_zeq2, e_zne1, e_zne2, e_feq1, e_fne1, e_feq2, e_fne2, e_seq, e_sne, e_ta1, e_ta2, Nat.zero_add, Nat.add_zero, Bool.not_true, Bool.not_false]
  exact pm_st { park with ht := 0 } h (by decide) rfl (fun _ _ => rfl) rfl rfl (by decide) (by constructor <;> decide) hK
theorem sp16 : Spoils 76 := by
  intro w cb ab tb r0 r1 r2 K h hK
  apply c76
  unfold s76_p1
  try simp only [e_fd, e_nck, e_pkt, e_pkf, e_gdtt, e_gdtf, e_gdft, e_gdff, e_ift, e_iff, e_not, e_ln, e_lnT, e_cp, e_cvi, e_ex20, e_ex21, e_ex30, e_ex31, e_ex32, e_add, e_sub, e_mul, e_quo, e_rem, e_and, e_or, e_xor, e_shl, e_shr, e_eql, e_neq, e_lss, e_leq, e_gtr, e_geq, e_beq, e_bne, e_peq1, e_peq2, e_pne1, e_pne2, e_zeq1, e_zeq2, e_zne1, e_zne2, e_feq1, e_fne1, e_feq2, e_fne2, e_seq, e_sne, e_ta1, e_ta2, Nat.zero_add, Nat.add_zero, Bool.not_true, Bool.not_false]
  exact pm_st { park with gr := 0 } h (by decide) rfl (fun _ _ => rfl) rfl rfl (by decide) (by constructor <;> decide) hK
theorem sp17 : Spoils 77 := by
  intro w cb ab tb r0 r1 r2 K h hK
  apply c77
  unfold s77_p1
  try simp only [e_fd, e_nck, e_pkt, e_pkf, e_gdtt, e_gdtf, e_gdft, e_gdff, e_ift, e_iff, e_not, e_ln, e_lnT, e_cp, e_cvi, e_ex20, e_ex21, e_ex30, e_ex31, e_ex32, e_add, e_sub, e_mul, e_quo, e_rem, e_and, e_or, e_xor, e_shl, e_shr, e_eql, e_neq, e_lss, e_leq, e_gtr, e_geq, e_beq, e_bne, e_peq1, e_peq2, e_pne1, e_pne2, e_zeq1, e_zeq2, e_zne1, e_zne2, e_feq1, e_fne1, e_feq2, e_fne2, e_seq, e_sne, e_ta1, e_ta2, Nat.zero_add, Nat.add_zero, Bool.not_true, Bool.not_false]
  exact pm_st { park with rt := 0 } h (by decide) rfl (fun _ _ => rfl) rfl rfl (by decide) (by constructor <;> decide) hK
theorem sp18 : Spoils 78 := by
  intro w cb ab tb r0 r1 r2 K h hK
  apply c78
  unfold s78_p1
  try simp only [e_fd, e_nck, e_pkt, e_pkf, e_gdtt, e_gdtf, e_gdft, e_gdff, e_ift, e_iff, e_not, e_ln, e_lnT, e_cp, e_cvi, e_ex20, e_ex21, e_ex30, e_ex31, e_ex32, e_add, e_sub, e_mul, e_quo, e_rem, e_and, e_or, e_xor, e_shl, e_shr, e_eql, e_neq, e_lss, e_leq, e_gtr, e_geq, e_beq, e_bne, e_peq1, e_peq2, e_pne1, e_pne2, e_zeq1, e_zeq2, e_zne1, e_zne2, e_feq1, e_fne1, e_feq2, e_fne2, e_seq, e_sne, e_ta1, e_ta2, Nat.zero_add, Nat.add_zero, Bool.not_true, Bool.not_false]
  exact pm_st { park with mb := 0 } h (by decide) rfl (fun _ _ => rfl) rfl rfl (by decide) (by constructor <;> decide) hK
theorem sp19 : Spoils 79 := by
  intro w cb ab tb r0 r1 r2 K h hK
  apply c79
  unfold s79_p1
  try simp only [e_fd, e_nck, e_pkt, e_pkf, e_gdtt, e_gdtf, e_gdft, e_gdff, e_ift, e_iff, e_not, e_ln, e_lnT, e_cp, e_cvi, e_ex20, e_ex21, e_ex30, e_ex31, e_ex32, e_add, e_sub, e_mul, e_quo, e_rem, e_and, e_or, e_xor, e_shl, e_shr, e_eql, e_neq, e_lss, e_leq, e_gtr, e_geq, e_beq, e_bne, e_peq1, e_peq2, e_pne1, e_pne2, e_zeq1, e_zeq2, e_zne1, e_zne2, e_feq1, e_fne1, e_feq2, e_fne2, e_seq, e_sne, e_ta1, e_ta2, Nat.zero_add, Nat.add_zero, Bool.not_true, Bool.not_false]
  exact pm_st { park with mx := 0 } h (by decide) rfl (fun _ _ => rfl) rfl rfl (by decide) (by constructor <;> decide) hK
theorem sp20 : Spoils 80 := by
  intro w cb ab tb r0 r1 r2 K h hK
  apply c80
  unfold s80_p1
  try simp only [e_fd, e_nck, e_pkt, e_pkf, e_gdtt, e_gdtf, e_gdft, e_gdff, e_ift, e_iff, e_not, e_ln, e_lnT, e_cp, e_cvi, e_ex20, e_ex21, e_ex30, e_ex31, e_ex32, e_add, e_sub, e_mul, e_quo, e_rem, e_and, e_or, e_xor, e_shl, e_shr, e_eql, e_neq, e_lss, e_leq, e_gtr, e_geq, e_beq, e_bne, e_peq1, e_peq2, e_pne1, e_pne2, e_zeq1, e_zeq2, e_zne1, e_zne2, e_feq1, e_fne1, e_feq2, e_fne2, e_seq, e_sne, e_ta1, e_ta2, Nat.zero_add, Nat.add_zero, Bool.not_true, Bool.not_false]
  exact pm_st { park with pg := 0 } h (by decide) rfl (fun _ _ => rfl) rfl rfl (by decide) (by constructor <;> decide) hK
theorem sp21 : Spoils 81 := by
  intro w cb ab tb r0 r1 r2 K h hK
  apply c81
  unfold s81_p1
  try simp only [e_fd, e_nck, e_pkt, e_pkf, e_gdtt, e_gdtf, e_gdft, e_gdff, e_ift, e_iff, e_not, e_ln, e_lnT, e_cp, e_cvi, e_ex20, e_ex21, e_ex30, e_ex31, e_ex32, e_add, e_sub, e_mul, e_quo, e_rem, e_and, e_or, e_xor, e_shl, e_shr, e_eql, e_neq, e_lss, e_leq, e_gtr, e_geq, e_beq, e_bne, e_peq1, e_peq2, e_pne1, e_pne2, e_zeq1, e_zeq2, e_zne1, e_zne2, e_feq1, e_fne1, e_feq2, e_fne2, e_seq, e_sne, e_ta1, e_ta2, Nat.zero_add, Nat.add_zero, Bool.not_true, Bool.not_false]
  exact pm_st { park with se := 0 } h (by decide) rfl (fun _ _ => rfl) rfl rfl (by decide) (by constructor <;> decide) hK
end
end Go.Proofs.Qxb6500896aGreat
