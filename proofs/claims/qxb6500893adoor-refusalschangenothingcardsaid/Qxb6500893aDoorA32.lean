import Derived.Test.Qxb6500893aDoorA31
namespace Go.Proofs.Qxb6500893aDoor
open Go.Sh Go.RowKit
set_option linter.unusedVariables false
set_option linter.unusedSimpArgs false

section
variable {W w w' w0 : World} {m m' m0 : Wm} {s s' : Ws} {M M' M0 : Md} {b t4 t6 kk nb : Nat} {c : Call} {K : Value → World → Prop} {F : Nat → List Nat}
/-- what stands at the end of the model's call -/
def MFin (W w0 : World) (m0 : Wm) (M0 : Md) (s' : Ws) (d : Mid) (c : Call) (t4 t6 : Nat) (K : Value → World → Prop) : Prop :=
  ∀ w' m' M' F', Mc W w0 m0 M0 s' c t4 t6 (outV d.code d.id d.at_ d.q 0 nilS) w' m' M' → PInv s'.A.ws s'.T s'.L F' → Mt s'.A.ws s'.T F' M' → s15_p1 K (P t6 0) w'

theorem popen_no {x y : Nat} (hx : x < 4294967296) (hy : y < 4294967296) (h : openC x y ≠ 0) (hK : K (.tuple #[.pointer none, I 2]) w) : cl Tryd.prog 30 #[I 4096, I (x : Nat), I (y : Nat)] K w := by
  have hc : y = 0 ∨ 4096 < x + y := by
    unfold openC at h
    exact Decidable.not_not.1 (fun q => h (if_neg q))
  apply c30
  unfold s30_p1
  try simp only [e_fd, e_nck, e_pkt, e_pkf, e_gdtt, e_gdtf, e_gdft, e_gdff, e_ift, e_iff, e_not, e_ln, e_lnT, e_cp, e_cvi, e_ex20, e_ex21, e_ex30, e_ex31, e_ex32, e_add, e_sub, e_mul, e_quo, e_rem, e_and, e_or, e_xor, e_shl, e_shr, e_eql, e_neq, e_lss, e_leq, e_gtr, e_geq, e_beq, e_bne, e_peq1, e_peq2, e_pne1, e_pne2, e_zeq1, e_zeq2, e_zne1, e_zne2, e_feq1, e_fne1, e_feq2, e_fne2, e_seq, e_sne, e_ta1, e_ta2, Nat.zero_add, Nat.add_zero, Bool.not_true, Bool.not_false]
  by_cases h0 : y = 0
  · have e1 : ((y : Nat) : Int) < 1 := by omega
    simp only [e1, decide_true, e_fd, e_nck, e_pkt, e_pkf, e_gdtt, e_gdtf, e_gdft, e_gdff, e_ift, e_iff, e_not, e_ln, e_lnT, e_cp, e_cvi, e_ex20, e_ex21, e_ex30, e_ex31, e_ex32, e_add, e_sub, e_mul, e_quo, e_rem, e_and, e_or, e_xor, e_shl, e_shr, e_eql, e_neq, e_lss, e_leq, e_gtr, e_geq, e_beq, e_bne, e_peq1, e_peq2, e_pne1, e_pne2, e_zeq1, e_zeq2, e_zne1, e_zne2, e_feq1, e_fne1, e_feq2, e_fne2, e_seq, e_sne, e_ta1, e_ta2, Nat.zero_add, Nat.add_zero, Bool.not_true, Bool.not_false]
    exact hK
  · have e1 : ¬ ((y : Nat) : Int) < 1 := by omega
    have e2 : ¬ ((x : Nat) : Int) < 0 := by omega
    have e3 : IntKind.i64.wrap (((x : Nat) : Int) + ((y : Nat) : Int)) = (x : Int) + y := wrap64_id (by omega) (by omega)
    have e4 : (4096 : Int) < ((x : Nat) : Int) + ((y : Nat) : Int) := by omega
    simp only [e1, e2, e3, e4, decide_true, decide_false, e_fd, e_nck, e_pkt, e_pkf, e_gdtt, e_gdtf, e_gdft, e_gdff, e_ift, e_iff, e_not, e_ln, e_lnT, e_cp, e_cvi, e_ex20, e_ex21, e_ex30, e_ex31, e_ex32, e_add, e_sub, e_mul, e_quo, e_rem, e_and, e_or, e_xor, e_shl, e_shr, e_eql, e_neq, e_lss, e_leq, e_gtr, e_geq, e_beq, e_bne, e_peq1, e_peq2, e_pne1, e_pne2, e_zeq1, e_zeq2, e_zne1, e_zne2, e_feq1, e_fne1, e_feq2, e_fne2, e_seq, e_sne, e_ta1, e_ta2, Nat.zero_add, Nat.add_zero, Bool.not_true, Bool.not_false]
    exact hK

theorem mod_open (R : Mc W w0 m0 M0 (realF kk nb s c) c t4 t6 (outV 0 (-1) 0 q0 0 nilS) w m M) (k0 : c.kind = 0) (hI : PInv s.A.ws s.T s.L F) (hmt : Mt s.A.ws s.T F M) (ha : 0 ≤ c.a ∧ c.a < 4294967296) (hb : 0 ≤ c.b ∧ c.b < 4294967296)
    (fin : MFin W w0 m0 M0 (realF kk nb s c) (midF kk (s00 s) c) c t4 t6 K) : s15_p2 K (P m0.wdb 0) (P t4 0) (P t6 0) w := by
  obtain ⟨x, hx⟩ : ∃ x : Nat, c.a = (x : Int) := ⟨c.a.toNat, by omega⟩
  obtain ⟨y, hy⟩ : ∃ y : Nat, c.b = (y : Int) := ⟨c.b.toNat, by omega⟩
  have ex : m32 c.a = x := by unfold m32; omega
  have ey : m32 c.b = y := by unfold m32; omega
  have hs0 := step0 (s := s) (kk := kk) (nb := nb) k0
  rw [ex, ey] at hs0
  unfold s15_p2
  try simp only [e_fd, e_nck, e_pkt, e_pkf, e_gdtt, e_gdtf, e_gdft, e_gdff, e_ift, e_iff, e_not, e_ln, e_lnT, e_cp, e_cvi, e_ex20, e_ex21, e_ex30, e_ex31, e_ex32, e_add, e_sub, e_mul, e_quo, e_rem, e_and, e_or, e_xor, e_shl, e_shr, e_eql, e_neq, e_lss, e_leq, e_gtr, e_geq, e_beq, e_bne, e_peq1, e_peq2, e_pne1, e_pne2, e_zeq1, e_zeq2, e_zne1, e_zne2, e_feq1, e_fne1, e_feq2, e_fne2, e_seq, e_sne, e_ta1, e_ta2, Nat.zero_add, Nat.add_zero, Bool.not_true, Bool.not_false]
  refine ld1_r R.r4 rfl ?_
  try simp only [e_fd, e_nck, e_pkt, e_pkf, e_gdtt, e_gdtf, e_gdft, e_gdff, e_ift, e_iff, e_not, e_ln, e_lnT, e_cp, e_cvi, e_ex20, e_ex21, e_ex30, e_ex31, e_ex32, e_add, e_sub, e_mul, e_quo, e_rem, e_and, e_or, e_xor, e_shl, e_shr, e_eql, e_neq, e_lss, e_leq, e_gtr, e_geq, e_beq, e_bne, e_peq1, e_peq2, e_pne1, e_pne2, e_zeq1, e_zeq2, e_zne1, e_zne2, e_feq1, e_fne1, e_feq2, e_fne2, e_seq, e_sne, e_ta1, e_ta2, Nat.zero_add, Nat.add_zero, Bool.not_true, Bool.not_false]
  refine ld1_r R.r4 rfl ?_
  rw [hx, hy]
  rcases hs0 with ⟨hn, em, er⟩ | ⟨h0, em, er⟩
  · rw [em, er] at fin
    rw [er] at R
    have e2 : openC x y = 2 := by
      unfold openC at hn ⊢
      split
      · rfl
      · rename_i q; rw [if_neg q] at hn; exact absurd rfl hn
    rw [e2] at fin
    refine popen_no (by omega) (by omega) hn ?_
    try simp only [e_fd, e_nck, e_pkt, e_pkf, e_gdtt, e_gdtf, e_gdft, e_gdff, e_ift, e_iff, e_not, e_ln, e_lnT, e_cp, e_cvi, e_ex20, e_ex21, e_ex30, e_ex31, e_ex32, e_add, e_sub, e_mul, e_quo, e_rem, e_and, e_or, e_xor, e_shl, e_shr, e_eql, e_neq, e_lss, e_leq, e_gtr, e_geq, e_beq, e_bne, e_peq1, e_peq2, e_pne1, e_pne2, e_zeq1, e_zeq2, e_zne1, e_zne2, e_feq1, e_fne1, e_feq2, e_fne2, e_seq, e_sne, e_ta1, e_ta2, Nat.zero_add, Nat.add_zero, Bool.not_true, Bool.not_false]
    refine R.code fun w1 R1 => ?_
    try simp only [e_fd, e_nck, e_pkt, e_pkf, e_gdtt, e_gdtf, e_gdft, e_gdff, e_ift, e_iff, e_not, e_ln, e_lnT, e_cp, e_cvi, e_ex20, e_ex21, e_ex30, e_ex31, e_ex32, e_add, e_sub, e_mul, e_quo, e_rem, e_and, e_or, e_xor, e_shl, e_shr, e_eql, e_neq, e_lss, e_leq, e_gtr, e_geq, e_beq, e_bne, e_peq1, e_peq2, e_pne1, e_pne2, e_zeq1, e_zeq2, e_zne1, e_zne2, e_feq1, e_fne1, e_feq2, e_fne2, e_seq, e_sne, e_ta1, e_ta2, Nat.zero_add, Nat.add_zero, Bool.not_true, Bool.not_false]
    refine ld1_r R1.r6 rfl ?_
    simp only [show ((2 : Int) == 0) = false from rfl, e_fd, e_nck, e_pkt, e_pkf, e_gdtt, e_gdtf, e_gdft, e_gdff, e_ift, e_iff, e_not, e_ln, e_lnT, e_cp, e_cvi, e_ex20, e_ex21, e_ex30, e_ex31, e_ex32, e_add, e_sub, e_mul, e_quo, e_rem, e_and, e_or, e_xor, e_shl, e_shr, e_eql, e_neq, e_lss, e_leq, e_gtr, e_geq, e_beq, e_bne, e_peq1, e_peq2, e_pne1, e_pne2, e_zeq1, e_zeq2, e_zne1, e_zne2, e_feq1, e_fne1, e_feq2, e_fne2, e_seq, e_sne, e_ta1, e_ta2, Nat.zero_add, Nat.add_zero, Bool.not_true, Bool.not_false]
    exact fin w1 m M F R1 hI hmt
  · rw [em, er] at fin
    rw [er] at R
    have hc : ¬ (y = 0 ∨ 4096 < x + y) := fun q => by unfold openC at h0; rw [if_pos q] at h0; cases h0
    refine popen_ok (b := x) (n := y) (by omega) (by omega) fun w1 r1 hk1 => ?_
    have R1 := R.kp' hk1
    have hz := R.kp.size
    try simp only [e_fd, e_nck, e_pkt, e_pkf, e_gdtt, e_gdtf, e_gdft, e_gdff, e_ift, e_iff, e_not, e_ln, e_lnT, e_cp, e_cvi, e_ex20, e_ex21, e_ex30, e_ex31, e_ex32, e_add, e_sub, e_mul, e_quo, e_rem, e_and, e_or, e_xor, e_shl, e_shr, e_eql, e_neq, e_lss, e_leq, e_gtr, e_geq, e_beq, e_bne, e_peq1, e_peq2, e_pne1, e_pne2, e_zeq1, e_zeq2, e_zne1, e_zne2, e_feq1, e_fne1, e_feq2, e_fne2, e_seq, e_sne, e_ta1, e_ta2, Nat.zero_add, Nat.add_zero, Bool.not_true, Bool.not_false]
    refine st1_r R1.r6 (show 0 < 9 by decide) rfl fun w2 r2 hk2 hz2 => ?_
    have R2 := R1.out hk2 r2
    have rm2 : Row w2 w.heap.size 54 [I (y : Nat), nilS] := hk2.row r1 (fun (q : _ = _) => row_ne r1 R1.r6 (by decide) q)
    try simp only [e_fd, e_nck, e_pkt, e_pkf, e_gdtt, e_gdtf, e_gdft, e_gdff, e_ift, e_iff, e_not, e_ln, e_lnT, e_cp, e_cvi, e_ex20, e_ex21, e_ex30, e_ex31, e_ex32, e_add, e_sub, e_mul, e_quo, e_rem, e_and, e_or, e_xor, e_shl, e_shr, e_eql, e_neq, e_lss, e_leq, e_gtr, e_geq, e_beq, e_bne, e_peq1, e_peq2, e_pne1, e_pne2, e_zeq1, e_zeq2, e_zne1, e_zne2, e_feq1, e_fne1, e_feq2, e_fne2, e_seq, e_sne, e_ta1, e_ta2, Nat.zero_add, Nat.add_zero, Bool.not_true, Bool.not_false]
    refine ld1_r R2.r6 rfl ?_
    simp only [show ((0 : Int) == 0) = true from rfl, e_fd, e_nck, e_pkt, e_pkf, e_gdtt, e_gdtf, e_gdft, e_gdff, e_ift, e_iff, e_not, e_ln, e_lnT, e_cp, e_cvi, e_ex20, e_ex21, e_ex30, e_ex31, e_ex32, e_add, e_sub, e_mul, e_quo, e_rem, e_and, e_or, e_xor, e_shl, e_shr, e_eql, e_neq, e_lss, e_leq, e_gtr, e_geq, e_beq, e_bne, e_peq1, e_peq2, e_pne1, e_pne2, e_zeq1, e_zeq2, e_zne1, e_zne2, e_feq1, e_fne1, e_feq2, e_fne2, e_seq, e_sne, e_ta1, e_ta2, Nat.zero_add, Nat.add_zero, Bool.not_true, Bool.not_false]
    refine st1_r R2.row (show 2 < 4 by decide) rfl fun w3 r3 hk3 hz3 => ?_
    have hk3' : Kp (fun b => b = m.wdb) w2 w3 := by rw [R.wdb]; exact hk3
    have r3' : Row w3 m.wdb 50 [P m.ab 0, P m.tb 0, P w.heap.size 0, m.lv] := by rw [R.wdb]; exact r3
    have st3 := R2.lm.st.setMd hk3' r3'
    have nt : ∀ {b t l}, Row w2 b t l → t ≠ 50 → ¬ (b = m0.wdb) := fun hr ht q => row_ne hr R2.row ht q
    have rm3 := hk3.row rm2 (nt rm2 (by decide))
    have hz1 := R.z
    have hM : MAt w3 ⟨w.heap.size, y, none, nilS, []⟩ := ⟨rm3, ⟨rfl, rfl⟩, fun p hp => (by cases hp), fun p hp => (by cases hp), List.nodup_nil, List.nodup_nil⟩
    have hown : ∀ b, OwnM ⟨w.heap.size, y, none, nilS, []⟩ b → w0.heap.size ≤ b := by
      rintro b (q | q | ⟨p, hp, q⟩ | ⟨p, hp, q⟩)
      · have q : b = w.heap.size := q
        omega
      · cases q
      · cases hp
      · cases hp
    refine fin w3 { m with md := P w.heap.size 0 } ⟨w.heap.size, y, none, nilS, []⟩ (fun _ => []) ⟨⟨st3, rfl, hM, fun b hb => by have := hown b hb; omega⟩, R2.kp.then hk3 (fun b _ q => .inr q), fun b hb => .inr (hown b hb), hk3.row R2.r4 (nt R2.r4 (by decide)), hk3.row R2.r6 (nt R2.r6 (by decide)), R.z4, R.z6, R.wdb, R.z⟩ (PInv.open _ _ _) ⟨?_, rfl, fun i hi => absurd hi (Nat.not_lt_zero _)⟩
    show y + x = x + y
    omega

theorem mod_create (R : Mc W w0 m0 M0 (realF kk nb s c) c t4 t6 (outV 0 (-1) 0 q0 0 nilS) w m M) (k1 : c.kind = 1) (ok : s.T.Ok) (hI : PInv s.A.ws s.T s.L F) (hmt : Mt s.A.ws s.T F M)
    (fin : MFin W w0 m0 M0 (realF kk nb s c) (midF kk (s00 s) c) c t4 t6 K) : s15_p3 K (P m0.wdb 0) (P t4 0) (P t6 0) w := by
  unfold s15_p3 s15_p3_d
  have R := R.kp' (w' := drw w) kp_drw
  generalize drw w = w at R ⊢
  try simp only [e_fd, e_nck, e_pkt, e_pkf, e_gdtt, e_gdtf, e_gdft, e_gdff, e_ift, e_iff, e_not, e_ln, e_lnT, e_cp, e_cvi, e_ex20, e_ex21, e_ex30, e_ex31, e_ex32, e_add, e_sub, e_mul, e_quo, e_rem, e_and, e_or, e_xor, e_shl, e_shr, e_eql, e_neq, e_lss, e_leq, e_gtr, e_geq, e_beq, e_bne, e_peq1, e_peq2, e_pne1, e_pne2, e_zeq1, e_zeq2, e_zne1, e_zne2, e_feq1, e_fne1, e_feq2, e_fne2, e_seq, e_sne, e_ta1, e_ta2, Nat.zero_add, Nat.add_zero, Bool.not_true, Bool.not_false]
  refine ld1_r R.row rfl ?_
  try simp only [e_fd, e_nck, e_pkt, e_pkf, e_gdtt, e_gdtf, e_gdft, e_gdff, e_ift, e_iff, e_not, e_ln, e_lnT, e_cp, e_cvi, e_ex20, e_ex21, e_ex30, e_ex31, e_ex32, e_add, e_sub, e_mul, e_quo, e_rem, e_and, e_or, e_xor, e_shl, e_shr, e_eql, e_neq, e_lss, e_leq, e_gtr, e_geq, e_beq, e_bne, e_peq1, e_peq2, e_pne1, e_pne2, e_zeq1, e_zeq2, e_zne1, e_zne2, e_feq1, e_fne1, e_feq2, e_fne2, e_seq, e_sne, e_ta1, e_ta2, Nat.zero_add, Nat.add_zero, Bool.not_true, Bool.not_false]
  refine ld1_r R.r4 rfl ?_
  try simp only [e_fd, e_nck, e_pkt, e_pkf, e_gdtt, e_gdtf, e_gdft, e_gdff, e_ift, e_iff, e_not, e_ln, e_lnT, e_cp, e_cvi, e_ex20, e_ex21, e_ex30, e_ex31, e_ex32, e_add, e_sub, e_mul, e_quo, e_rem, e_and, e_or, e_xor, e_shl, e_shr, e_eql, e_neq, e_lss, e_leq, e_gtr, e_geq, e_beq, e_bne, e_peq1, e_peq2, e_pne1, e_pne2, e_zeq1, e_zeq2, e_zne1, e_zne2, e_feq1, e_fne1, e_feq2, e_fne2, e_seq, e_sne, e_ta1, e_ta2, Nat.zero_add, Nat.add_zero, Bool.not_true, Bool.not_false]
  refine ld1_r R.r4 rfl ?_
  try simp only [e_fd, e_nck, e_pkt, e_pkf, e_gdtt, e_gdtf, e_gdft, e_gdff, e_ift, e_iff, e_not, e_ln, e_lnT, e_cp, e_cvi, e_ex20, e_ex21, e_ex30, e_ex31, e_ex32, e_add, e_sub, e_mul, e_quo, e_rem, e_and, e_or, e_xor, e_shl, e_shr, e_eql, e_neq, e_lss, e_leq, e_gtr, e_geq, e_beq, e_bne, e_peq1, e_peq2, e_pne1, e_pne2, e_zeq1, e_zeq2, e_zne1, e_zne2, e_feq1, e_fne1, e_feq2, e_fne2, e_seq, e_sne, e_ta1, e_ta2, Nat.zero_add, Nat.add_zero, Bool.not_true, Bool.not_false]
  rcases step1 (s := s) (kk := kk) (nb := nb) ok k1 with ⟨hn, em, er⟩ | ⟨h0, hok, em, er⟩
  · rw [em, er] at fin
    rw [er] at R
    refine mcreate_ok R.lm.mt ok hmt.room hmt.len (fun _ w1 hk1 => ?_) (fun h0 => absurd h0 hn)
    simp only [and_self, e_fd, e_nck, e_pkt, e_pkf, e_gdtt, e_gdtf, e_gdft, e_gdff, e_ift, e_iff, e_not, e_ln, e_lnT, e_cp, e_cvi, e_ex20, e_ex21, e_ex30, e_ex31, e_ex32, e_add, e_sub, e_mul, e_quo, e_rem, e_and, e_or, e_xor, e_shl, e_shr, e_eql, e_neq, e_lss, e_leq, e_gtr, e_geq, e_beq, e_bne, e_peq1, e_peq2, e_pne1, e_pne2, e_zeq1, e_zeq2, e_zne1, e_zne2, e_feq1, e_fne1, e_feq2, e_fne2, e_seq, e_sne, e_ta1, e_ta2, Nat.zero_add, Nat.add_zero, Bool.not_true, Bool.not_false]
    refine (R.kp' hk1).pid fun w2 R2 => ?_
    refine R2.code fun w3 R3 => ?_
    exact fin w3 m M F R3 hI hmt
  · rw [em, er] at fin
    rw [er] at R
    refine mcreate_ok R.lm.mt ok hmt.room hmt.len (fun hn => absurd h0 hn) (fun _ w1 M1 pb mp hM1 e1 e2 e3 ho hk1 => ?_)
    simp only [and_self, e_fd, e_nck, e_pkt, e_pkf, e_gdtt, e_gdtf, e_gdft, e_gdff, e_ift, e_iff, e_not, e_ln, e_lnT, e_cp, e_cvi, e_ex20, e_ex21, e_ex30, e_ex31, e_ex32, e_add, e_sub, e_mul, e_quo, e_rem, e_and, e_or, e_xor, e_shl, e_shr, e_eql, e_neq, e_lss, e_leq, e_gtr, e_geq, e_beq, e_bne, e_peq1, e_peq2, e_pne1, e_pne2, e_zeq1, e_zeq2, e_zne1, e_zne2, e_feq1, e_fne1, e_feq2, e_fne2, e_seq, e_sne, e_ta1, e_ta2, Nat.zero_add, Nat.add_zero, Bool.not_true, Bool.not_false]
    rw [hmt.len]
    refine (R.mod hk1 hM1 ho e1).pid fun w2 R2 => ?_
    refine R2.code fun w3 R3 => ?_
    exact fin w3 m M1 _ R3 (hI.create ok hok (A := A0 s.A) rfl) (hmt.create ok hok (A := A0 s.A) rfl e2 e3)

theorem mod_alloc (R : Mc W w0 m0 M0 (realF kk nb s c) c t4 t6 (outV 0 (-1) 0 q0 0 nilS) w m M) (k2 : c.kind = 2) (ok : s.T.Ok) (hI : PInv s.A.ws s.T s.L F) (hf : FailLe 18446744073709551614 s) (hmt : Mt s.A.ws s.T F M)
    (fin : MFin W w0 m0 M0 (realF kk nb s c) (midF kk (s00 s) c) c t4 t6 K) : s15_p10 K (P m0.wdb 0) (U32 (midF kk (s00 s) c).at_) (P t4 0) (P t6 0) w := by
  have hfl : ∀ p ∈ M.ps, p.fl < 18446744073709551615 := by
    intro p hp
    obtain ⟨i, hi, rfl⟩ := List.getElem_of_mem hp
    have hi' : i < s.T.ps.length := by rw [← hmt.len]; exact hi
    have h1 := (hmt.at_ i hi' hi).fl
    have h2 := hf _ (List.getElem_mem hi')
    omega
  unfold s15_p10 s15_p10_d
  have R := R.kp' (w' := drw w) kp_drw
  generalize drw w = w at R ⊢
  try simp only [e_fd, e_nck, e_pkt, e_pkf, e_gdtt, e_gdtf, e_gdft, e_gdff, e_ift, e_iff, e_not, e_ln, e_lnT, e_cp, e_cvi, e_ex20, e_ex21, e_ex30, e_ex31, e_ex32, e_add, e_sub, e_mul, e_quo, e_rem, e_and, e_or, e_xor, e_shl, e_shr, e_eql, e_neq, e_lss, e_leq, e_gtr, e_geq, e_beq, e_bne, e_peq1, e_peq2, e_pne1, e_pne2, e_zeq1, e_zeq2, e_zne1, e_zne2, e_feq1, e_fne1, e_feq2, e_fne2, e_seq, e_sne, e_ta1, e_ta2, Nat.zero_add, Nat.add_zero, Bool.not_true, Bool.not_false]
  refine ld1_r R.row rfl ?_
  try simp only [e_fd, e_nck, e_pkt, e_pkf, e_gdtt, e_gdtf, e_gdft, e_gdff, e_ift, e_iff, e_not, e_ln, e_lnT, e_cp, e_cvi, e_ex20, e_ex21, e_ex30, e_ex31, e_ex32, e_add, e_sub, e_mul, e_quo, e_rem, e_and, e_or, e_xor, e_shl, e_shr, e_eql, e_neq, e_lss, e_leq, e_gtr, e_geq, e_beq, e_bne, e_peq1, e_peq2, e_pne1, e_pne2, e_zeq1, e_zeq2, e_zne1, e_zne2, e_feq1, e_fne1, e_feq2, e_fne2, e_seq, e_sne, e_ta1, e_ta2, Nat.zero_add, Nat.add_zero, Bool.not_true, Bool.not_false]
  refine ld1_r R.r4 rfl ?_
  try simp only [e_fd, e_nck, e_pkt, e_pkf, e_gdtt, e_gdtf, e_gdft, e_gdff, e_ift, e_iff, e_not, e_ln, e_lnT, e_cp, e_cvi, e_ex20, e_ex21, e_ex30, e_ex31, e_ex32, e_add, e_sub, e_mul, e_quo, e_rem, e_and, e_or, e_xor, e_shl, e_shr, e_eql, e_neq, e_lss, e_leq, e_gtr, e_geq, e_beq, e_bne, e_peq1, e_peq2, e_pne1, e_pne2, e_zeq1, e_zeq2, e_zne1, e_zne2, e_feq1, e_fne1, e_feq2, e_fne2, e_seq, e_sne, e_ta1, e_ta2, Nat.zero_add, Nat.add_zero, Bool.not_true, Bool.not_false]
  rcases step2 (s := s) (kk := kk) (nb := nb) ok k2 hI hf with ⟨hn, em, er⟩ | ⟨i, hi, hid, hF, A', ew, es, em, er⟩ | ⟨i, hi, j, F', hid, hF, em, er⟩
  · rw [em, er] at fin
    rw [em]
    rw [er] at R
    have hno : ¬ (0 ≤ c.pool ∧ c.pool < M.ps.length) := by rw [hmt.len]; exact hn
    refine malloc_ok R.lm.mt hfl (fun _ => ?_) (fun i hi hid => absurd ⟨by omega, by omega⟩ hno) (fun i hi hid => absurd ⟨by omega, by omega⟩ hno)
    refine R.code fun w1 R1 => ?_
    unfold s15_p9
    try simp only [e_fd, e_nck, e_pkt, e_pkf, e_gdtt, e_gdtf, e_gdft, e_gdff, e_ift, e_iff, e_not, e_ln, e_lnT, e_cp, e_cvi, e_ex20, e_ex21, e_ex30, e_ex31, e_ex32, e_add, e_sub, e_mul, e_quo, e_rem, e_and, e_or, e_xor, e_shl, e_shr, e_eql, e_neq, e_lss, e_leq, e_gtr, e_geq, e_beq, e_bne, e_peq1, e_peq2, e_pne1, e_pne2, e_zeq1, e_zeq2, e_zne1, e_zne2, e_feq1, e_fne1, e_feq2, e_fne2, e_seq, e_sne, e_ta1, e_ta2, Nat.zero_add, Nat.add_zero, Bool.not_true, Bool.not_false]
    refine ld1_r R1.r6 rfl ?_
    unfold s15_p8
    simp only [show ((6 : Int) == 0) = false from rfl, e_fd, e_nck, e_pkt, e_pkf, e_gdtt, e_gdtf, e_gdft, e_gdff, e_ift, e_iff, e_not, e_ln, e_lnT, e_cp, e_cvi, e_ex20, e_ex21, e_ex30, e_ex31, e_ex32, e_add, e_sub, e_mul, e_quo, e_rem, e_and, e_or, e_xor, e_shl, e_shr, e_eql, e_neq, e_lss, e_leq, e_gtr, e_geq, e_beq, e_bne, e_peq1, e_peq2, e_pne1, e_pne2, e_zeq1, e_zeq2, e_zne1, e_zne2, e_feq1, e_fne1, e_feq2, e_fne2, e_seq, e_sne, e_ta1, e_ta2, Nat.zero_add, Nat.add_zero, Bool.not_true, Bool.not_false]
    exact fin w1 m M F R1 hI hmt
  · rw [em, er] at fin
    rw [em]
    rw [er] at R
    have him : i < M.ps.length := by rw [hmt.len]; exact hi
    have hq := hmt.at_ i hi him
    rw [hF] at hq
    have hfull : M.ps[i].us.length = M.ps[i].n := by have := hq.len; have := hq.n; simp at *; omega
    refine malloc_ok R.lm.mt hfl (fun hno => absurd ⟨by omega, by omega⟩ hno) (fun i' hi' hid' _ w1 hM1 hk1 => ?_) (fun i' hi' hid' hnf => ?_)
    · obtain rfl : i' = i := by omega
      refine (R.set hi' hM1 hk1 (fun b q => .inl q) rfl rfl).code fun w2 R2 => ?_
      unfold s15_p9
      try simp only [e_fd, e_nck, e_pkt, e_pkf, e_gdtt, e_gdtf, e_gdft, e_gdff, e_ift, e_iff, e_not, e_ln, e_lnT, e_cp, e_cvi, e_ex20, e_ex21, e_ex30, e_ex31, e_ex32, e_add, e_sub, e_mul, e_quo, e_rem, e_and, e_or, e_xor, e_shl, e_shr, e_eql, e_neq, e_lss, e_leq, e_gtr, e_geq, e_beq, e_bne, e_peq1, e_peq2, e_pne1, e_pne2, e_zeq1, e_zeq2, e_zne1, e_zne2, e_feq1, e_fne1, e_feq2, e_fne2, e_seq, e_sne, e_ta1, e_ta2, Nat.zero_add, Nat.add_zero, Bool.not_true, Bool.not_false]
      refine ld1_r R2.r6 rfl ?_
      unfold s15_p8
      simp only [show ((7 : Int) == 0) = false from rfl, e_fd, e_nck, e_pkt, e_pkf, e_gdtt, e_gdtf, e_gdft, e_gdff, e_ift, e_iff, e_not, e_ln, e_lnT, e_cp, e_cvi, e_ex20, e_ex21, e_ex30, e_ex31, e_ex32, e_add, e_sub, e_mul, e_quo, e_rem, e_and, e_or, e_xor, e_shl, e_shr, e_eql, e_neq, e_lss, e_leq, e_gtr, e_geq, e_beq, e_bne, e_peq1, e_peq2, e_pne1, e_pne2, e_zeq1, e_zeq2, e_zne1, e_zne2, e_feq1, e_fne1, e_feq2, e_fne2, e_seq, e_sne, e_ta1, e_ta2, Nat.zero_add, Nat.add_zero, Bool.not_true, Bool.not_false]
      have hfst := fst_ge (ok.sh _ (List.getElem_mem hi)).1
      have hfin := (ok.sh _ (List.getElem_mem hi)).1.fin
      have hout : ∀ a, (a < s.T.ps[i'].ctl ∨ s.T.ps[i'].fin ≤ a) → upd s.A.ws (s.T.ps[i'].ctl + 4) (s.A.ws (s.T.ps[i'].ctl + 4) + 1) a = s.A.ws a := fun a ha => updO (by omega)
      have h1 := hI.exh ok hi (v := s.A.ws (s.T.ps[i'].ctl + 4) + 1)
      have h2 := hmt.set ok hi hi' hq.exh hout
      have eF : upd F i' [] = F := by
        funext k
        by_cases e : k = i'
        · subst e; rw [updN, hF]
        · rw [updO e]
      rw [eF] at h2
      refine fin w2 m _ F R2 ?_ ?_
      · show PInv A'.ws s.T s.L F
        rw [ew]; exact h1
      · show Mt A'.ws s.T F _
        rw [ew]; exact h2
    · obtain rfl : i' = i := by omega
      exact absurd hfull hnf
  · rw [em, er] at fin
    rw [em]
    rw [er] at R
    have him : i < M.ps.length := by rw [hmt.len]; exact hi
    have hq := hmt.at_ i hi him
    rw [hF] at hq
    have hok := (ok.sh _ (List.getElem_mem hi)).1
    have o1 := hok.bw1
    have o2 := hok.bw2
    have o3 := hok.fin
    have o4 := hok.lim
    have o5 := hok.n2
    have hP := hI.pool i hi
    rw [hF] at hP
    have hjn := hP.lt j (List.mem_cons_self ..)
    have hbl := bk_le _ hok hjn
    have hnf : M.ps[i].us.length ≠ M.ps[i].n := by have h1 := hq.len; have h2 := hq.n; rw [List.length_cons] at h1; omega
    have hju : ((j : Nat) : Int) ∉ M.ps[i].us := fun q => (hq.iff hjn).1 q (List.mem_cons_self ..)
    refine malloc_ok R.lm.mt hfl (fun hno => absurd ⟨by omega, by omega⟩ hno) (fun i' hi' hid' hfu => ?_) (fun i' hi' hid' _ w1 hk1 => ?_)
    · obtain rfl : i' = i := by omega
      exact absurd hfu hnf
    obtain rfl : i' = i := by omega
    refine (R.kp' hk1).code fun w2 R2 => ?_
    unfold s15_p9
    try simp only [e_fd, e_nck, e_pkt, e_pkf, e_gdtt, e_gdtf, e_gdft, e_gdff, e_ift, e_iff, e_not, e_ln, e_lnT, e_cp, e_cvi, e_ex20, e_ex21, e_ex30, e_ex31, e_ex32, e_add, e_sub, e_mul, e_quo, e_rem, e_and, e_or, e_xor, e_shl, e_shr, e_eql, e_neq, e_lss, e_leq, e_gtr, e_geq, e_beq, e_bne, e_peq1, e_peq2, e_pne1, e_pne2, e_zeq1, e_zeq2, e_zne1, e_zne2, e_feq1, e_fne1, e_feq2, e_fne2, e_seq, e_sne, e_ta1, e_ta2, Nat.zero_add, Nat.add_zero, Bool.not_true, Bool.not_false]
    refine ld1_r R2.r6 rfl ?_
    unfold s15_p8
    simp only [show ((0 : Int) == 0) = true from rfl, e_fd, e_nck, e_pkt, e_pkf, e_gdtt, e_gdtf, e_gdft, e_gdff, e_ift, e_iff, e_not, e_ln, e_lnT, e_cp, e_cvi, e_ex20, e_ex21, e_ex30, e_ex31, e_ex32, e_add, e_sub, e_mul, e_quo, e_rem, e_and, e_or, e_xor, e_shl, e_shr, e_eql, e_neq, e_lss, e_leq, e_gtr, e_geq, e_beq, e_bne, e_peq1, e_peq2, e_pne1, e_pne2, e_zeq1, e_zeq2, e_zne1, e_zne2, e_feq1, e_fne1, e_feq2, e_fne2, e_seq, e_sne, e_ta1, e_ta2, Nat.zero_add, Nat.add_zero, Bool.not_true, Bool.not_false]
    unfold s15_p7
    try simp only [e_fd, e_nck, e_pkt, e_pkf, e_gdtt, e_gdtf, e_gdft, e_gdff, e_ift, e_iff, e_not, e_ln, e_lnT, e_cp, e_cvi, e_ex20, e_ex21, e_ex30, e_ex31, e_ex32, e_add, e_sub, e_mul, e_quo, e_rem, e_and, e_or, e_xor, e_shl, e_shr, e_eql, e_neq, e_lss, e_leq, e_gtr, e_geq, e_beq, e_bne, e_peq1, e_peq2, e_pne1, e_pne2, e_zeq1, e_zeq2, e_zne1, e_zne2, e_feq1, e_fne1, e_feq2, e_fne2, e_seq, e_sne, e_ta1, e_ta2, Nat.zero_add, Nat.add_zero, Bool.not_true, Bool.not_false]
    refine ld1_r R2.r4 rfl ?_
    rw [← R.wdb]
    refine offset_ok R2.lm.st (by omega) fun w3 hk3 => ?_
    rw [R.wdb]
    have epl : pl s.T c.pool = some s.T.ps[i'] := by rw [hid]; exact pl_some hi
    simp only [epl]
    have eo : ((s.T.ps[i'].bk j : Nat) : Int) - ((s.T.ps[i'].fst : Nat) : Int) = ((j * s.T.ps[i'].bw : Nat) : Int) := by unfold Shp.bk; omega
    rw [eo]
    unfold s15_p6 s15_p6_d
    have R3 := (R2.kp' hk3).kp' (w' := drw w3) kp_drw
    generalize drw w3 = w4 at R3 ⊢
    try simp only [e_fd, e_nck, e_pkt, e_pkf, e_gdtt, e_gdtf, e_gdft, e_gdff, e_ift, e_iff, e_not, e_ln, e_lnT, e_cp, e_cvi, e_ex20, e_ex21, e_ex30, e_ex31, e_ex32, e_add, e_sub, e_mul, e_quo, e_rem, e_and, e_or, e_xor, e_shl, e_shr, e_eql, e_neq, e_lss, e_leq, e_gtr, e_geq, e_beq, e_bne, e_peq1, e_peq2, e_pne1, e_pne2, e_zeq1, e_zeq2, e_zne1, e_zne2, e_feq1, e_fne1, e_feq2, e_fne2, e_seq, e_sne, e_ta1, e_ta2, Nat.zero_add, Nat.add_zero, Bool.not_true, Bool.not_false]
    refine ld1_r R3.row rfl ?_
    try simp only [e_fd, e_nck, e_pkt, e_pkf, e_gdtt, e_gdtf, e_gdft, e_gdff, e_ift, e_iff, e_not, e_ln, e_lnT, e_cp, e_cvi, e_ex20, e_ex21, e_ex30, e_ex31, e_ex32, e_add, e_sub, e_mul, e_quo, e_rem, e_and, e_or, e_xor, e_shl, e_shr, e_eql, e_neq, e_lss, e_leq, e_gtr, e_geq, e_beq, e_bne, e_peq1, e_peq2, e_pne1, e_pne2, e_zeq1, e_zeq2, e_zne1, e_zne2, e_feq1, e_fne1, e_feq2, e_fne2, e_seq, e_sne, e_ta1, e_ta2, Nat.zero_add, Nat.add_zero, Bool.not_true, Bool.not_false]
    refine ld1_r R3.lm.mt.row rfl ?_
    try simp only [e_fd, e_nck, e_pkt, e_pkf, e_gdtt, e_gdtf, e_gdft, e_gdff, e_ift, e_iff, e_not, e_ln, e_lnT, e_cp, e_cvi, e_ex20, e_ex21, e_ex30, e_ex31, e_ex32, e_add, e_sub, e_mul, e_quo, e_rem, e_and, e_or, e_xor, e_shl, e_shr, e_eql, e_neq, e_lss, e_leq, e_gtr, e_geq, e_beq, e_bne, e_peq1, e_peq2, e_pne1, e_pne2, e_zeq1, e_zeq2, e_zne1, e_zne2, e_feq1, e_fne1, e_feq2, e_fne2, e_seq, e_sne, e_ta1, e_ta2, Nat.zero_add, Nat.add_zero, Bool.not_true, Bool.not_false]
    refine ld1_r R3.r4 rfl ?_
    rw [hid]
    refine R3.lm.mt.get hi' ?_
    try simp only [e_fd, e_nck, e_pkt, e_pkf, e_gdtt, e_gdtf, e_gdft, e_gdff, e_ift, e_iff, e_not, e_ln, e_lnT, e_cp, e_cvi, e_ex20, e_ex21, e_ex30, e_ex31, e_ex32, e_add, e_sub, e_mul, e_quo, e_rem, e_and, e_or, e_xor, e_shl, e_shr, e_eql, e_neq, e_lss, e_leq, e_gtr, e_geq, e_beq, e_bne, e_peq1, e_peq2, e_pne1, e_pne2, e_zeq1, e_zeq2, e_zne1, e_zne2, e_feq1, e_fne1, e_feq2, e_fne2, e_seq, e_sne, e_ta1, e_ta2, Nat.zero_add, Nat.add_zero, Bool.not_true, Bool.not_false]
    have hr4 : Row w4 M.ps[i'].pb 60 [I s.T.ps[i'].bw, I s.T.ps[i'].n, .map (some M.ps[i'].mp), I M.ps[i'].pk, U64 M.ps[i'].fl] := by
      rw [← hq.bw, ← hq.n]; exact R3.lm.mt.rw _ (List.getElem_mem hi')
    refine ld1_r hr4 rfl ?_
    unfold s15_p5 s15_p5_d
    have R4 := R3.kp' (w' := drw w4) kp_drw
    generalize drw w4 = w5 at R4 ⊢
    try simp only [e_fd, e_nck, e_pkt, e_pkf, e_gdtt, e_gdtf, e_gdft, e_gdff, e_ift, e_iff, e_not, e_ln, e_lnT, e_cp, e_cvi, e_ex20, e_ex21, e_ex30, e_ex31, e_ex32, e_add, e_sub, e_mul, e_quo, e_rem, e_and, e_or, e_xor, e_shl, e_shr, e_eql, e_neq, e_lss, e_leq, e_gtr, e_geq, e_beq, e_bne, e_peq1, e_peq2, e_pne1, e_pne2, e_zeq1, e_zeq2, e_zne1, e_zne2, e_feq1, e_fne1, e_feq2, e_fne2, e_seq, e_sne, e_ta1, e_ta2, Nat.zero_add, Nat.add_zero, Bool.not_true, Bool.not_false]
    refine ⟨by omega, ?_⟩
    have em0 : ((j * s.T.ps[i'].bw : Nat) : Int).tmod ((s.T.ps[i'].bw : Nat) : Int) = 0 := by
      rw [Int.tmod_eq_emod_of_nonneg (by omega)]
      have : (j * s.T.ps[i'].bw) % s.T.ps[i'].bw = 0 := Nat.mul_mod_left _ _
      omega
    rw [em0]
    simp only [show ((0 : Int) != 0) = false from rfl, e_fd, e_nck, e_pkt, e_pkf, e_gdtt, e_gdtf, e_gdft, e_gdff, e_ift, e_iff, e_not, e_ln, e_lnT, e_cp, e_cvi, e_ex20, e_ex21, e_ex30, e_ex31, e_ex32, e_add, e_sub, e_mul, e_quo, e_rem, e_and, e_or, e_xor, e_shl, e_shr, e_eql, e_neq, e_lss, e_leq, e_gtr, e_geq, e_beq, e_bne, e_peq1, e_peq2, e_pne1, e_pne2, e_zeq1, e_zeq2, e_zne1, e_zne2, e_feq1, e_fne1, e_feq2, e_fne2, e_seq, e_sne, e_ta1, e_ta2, Nat.zero_add, Nat.add_zero, Bool.not_true, Bool.not_false]
    refine ld1_r R4.row rfl ?_
    try simp only [e_fd, e_nck, e_pkt, e_pkf, e_gdtt, e_gdtf, e_gdft, e_gdff, e_ift, e_iff, e_not, e_ln, e_lnT, e_cp, e_cvi, e_ex20, e_ex21, e_ex30, e_ex31, e_ex32, e_add, e_sub, e_mul, e_quo, e_rem, e_and, e_or, e_xor, e_shl, e_shr, e_eql, e_neq, e_lss, e_leq, e_gtr, e_geq, e_beq, e_bne, e_peq1, e_peq2, e_pne1, e_pne2, e_zeq1, e_zeq2, e_zne1, e_zne2, e_feq1, e_fne1, e_feq2, e_fne2, e_seq, e_sne, e_ta1, e_ta2, Nat.zero_add, Nat.add_zero, Bool.not_true, Bool.not_false]
    refine ld1_r R4.r4 rfl ?_
    try simp only [e_fd, e_nck, e_pkt, e_pkf, e_gdtt, e_gdtf, e_gdft, e_gdff, e_ift, e_iff, e_not, e_ln, e_lnT, e_cp, e_cvi, e_ex20, e_ex21, e_ex30, e_ex31, e_ex32, e_add, e_sub, e_mul, e_quo, e_rem, e_and, e_or, e_xor, e_shl, e_shr, e_eql, e_neq, e_lss, e_leq, e_gtr, e_geq, e_beq, e_bne, e_peq1, e_peq2, e_pne1, e_pne2, e_zeq1, e_zeq2, e_zne1, e_zne2, e_feq1, e_fne1, e_feq2, e_fne2, e_seq, e_sne, e_ta1, e_ta2, Nat.zero_add, Nat.add_zero, Bool.not_true, Bool.not_false]
    refine ⟨by omega, ?_⟩
    have ed : ((j * s.T.ps[i'].bw : Nat) : Int).tdiv ((s.T.ps[i'].bw : Nat) : Int) = ((j : Nat) : Int) := by
      rw [Int.tdiv_eq_ediv_of_nonneg (by omega)]
      have : (j * s.T.ps[i'].bw) / s.T.ps[i'].bw = j := Nat.mul_div_cancel _ (by omega)
      omega
    rw [ed, wrap64_id (n := ((j : Nat) : Int)) (by omega) (by omega), hid]
    refine mtake_ok R4.lm.mt hi' (by rw [hq.n]; exact hjn) hju fun w6 hM6 hk6 => ?_
    have R6 := R4.set hi' hM6 hk6 (fun b q => q) rfl rfl
    try simp only [e_fd, e_nck, e_pkt, e_pkf, e_gdtt, e_gdtf, e_gdft, e_gdff, e_ift, e_iff, e_not, e_ln, e_lnT, e_cp, e_cvi, e_ex20, e_ex21, e_ex30, e_ex31, e_ex32, e_add, e_sub, e_mul, e_quo, e_rem, e_and, e_or, e_xor, e_shl, e_shr, e_eql, e_neq, e_lss, e_leq, e_gtr, e_geq, e_beq, e_bne, e_peq1, e_peq2, e_pne1, e_pne2, e_zeq1, e_zeq2, e_zne1, e_zne2, e_feq1, e_fne1, e_feq2, e_fne2, e_seq, e_sne, e_ta1, e_ta2, Nat.zero_add, Nat.add_zero, Bool.not_true, Bool.not_false]
    unfold s15_p4
    try simp only [e_fd, e_nck, e_pkt, e_pkf, e_gdtt, e_gdtf, e_gdft, e_gdff, e_ift, e_iff, e_not, e_ln, e_lnT, e_cp, e_cvi, e_ex20, e_ex21, e_ex30, e_ex31, e_ex32, e_add, e_sub, e_mul, e_quo, e_rem, e_and, e_or, e_xor, e_shl, e_shr, e_eql, e_neq, e_lss, e_leq, e_gtr, e_geq, e_beq, e_bne, e_peq1, e_peq2, e_pne1, e_pne2, e_zeq1, e_zeq2, e_zne1, e_zne2, e_feq1, e_fne1, e_feq2, e_fne2, e_seq, e_sne, e_ta1, e_ta2, Nat.zero_add, Nat.add_zero, Bool.not_true, Bool.not_false]
    refine R6.at' fun w7 R7 => ?_
    obtain ⟨_, _, _, hout, e4, e3, _⟩ := PoolOk.alloc (A := A0 s.A) hok hP
    have hfst := fst_ge hok
    refine fin w7 m _ (upd F i' F') R7 (PInv.alloc (A := A0 s.A) ok hI hi hF nb) ?_
    have hout' : ∀ a, (a < s.T.ps[i'].ctl ∨ s.T.ps[i'].fin ≤ a) → (allocF (A0 s.A) s.T.ps[i']).2.2.ws a = s.A.ws a := fun a ha => hout a (by omega)
    exact hmt.set ok hi hi' (hq.alloc hP e4 e3) hout'
end
end Go.Proofs.Qxb6500893aDoor
