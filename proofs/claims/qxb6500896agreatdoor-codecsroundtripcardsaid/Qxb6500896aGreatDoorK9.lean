import Derived.Test.Qxb6500896aGreatDoorK8
import Derived.Test.Qxb6500896aGreatDoorGd
namespace Go.Proofs.Qxb6500896aGreatDoor
open Go.Sh Go.RowKit
set_option linter.unusedVariables false
set_option linter.unusedSimpArgs false

abbrev U32 (n : Int) : Value := .int .u32 n
/-- one octet into the digest -/
def dR (n : Int) (d : Int) (k : Nat) : Int :=
  IntKind.u32.wrap (IntKind.u32.wrap ((BitVec.ofInt IntKind.u32.bits d ^^^ BitVec.ofInt IntKind.u32.bits (IntKind.u32.wrap (IntKind.u8.wrap ((IntKind.u64.wrap n).fdiv (2 ^ (min (IntKind.u64.wrap ((8 * k : Nat) : Int)).toNat IntKind.u64.bits)))))).toNat) * 16777619)
def dAdd (d : Int) (n : Int) : Int := (List.range 8).foldl (dR n) d
def aNums (a : Att) : List Int := [a.cap, a.dw, a.q0, a.q1, a.q2]
def nums (C : Cfg) : List Int := ((C.ats.length : Nat) : Int) :: (C.ats.flatMap aNums) ++ C.tr.flatten ++ [C.hz, C.mc, C.mp, C.ml, C.ht, C.gr, C.rt, C.of, C.mb, C.mx]
def fp (C : Cfg) : Int := IntKind.i64.wrap ((nums C).foldl dAdd 2166136261)
section
variable {F : Nat → Prop} {w w' : World} {v : Value} {l : List Value} {C : Cfg} {K : Value → World → Prop} {db : Nat}
theorem dadd_ok {d n : Int} (r : Row w db 205 [U32 d]) (hK : ∀ w', Row w' db 205 [U32 (dAdd d n)] → Kp (fun b => b = db) w w' → w'.heap.size = w.heap.size → K (.tuple #[]) w') : cl Tryz.prog 132 #[P db 0, I n] K w := by
  apply c132
  unfold s132_p3 s132_p2
  refine loop_n 8 (fun i l w' => l = [P db 0, I n, I ((8 * i : Nat) : Int)] ∧ Row w' db 205 [U32 ((List.range i).foldl (dR n) d)] ∧ Kp (fun b => b = db) w w' ∧ w'.heap.size = w.heap.size) ⟨rfl, r, Kp.refl _ _, rfl⟩ ?_ ?_
  · rintro i l w1 hi ⟨rfl, r1, hk1, hz1⟩ B hB
    rw [s132_p2_Fe]
    unfold s132_p1
    have e1 : ((8 * i : Nat) : Int) < 64 := by omega
    simp only [e1, decide_true, e_fd, e_nck, e_pkt, e_pkf, e_gdtt, e_gdtf, e_gdft, e_gdff, e_ift, e_iff, e_not, e_ln, e_lnT, e_cp, e_cvi, e_ex20, e_ex21, e_ex30, e_ex31, e_ex32, e_add, e_sub, e_mul, e_quo, e_rem, e_and, e_or, e_xor, e_shl, e_shr, e_eql, e_neq, e_lss, e_leq, e_gtr, e_geq, e_beq, e_bne, e_peq1, e_peq2, e_pne1, e_pne2, e_zeq1, e_zeq2, e_zne1, e_zne2, e_feq1, e_fne1, e_feq2, e_fne2, e_seq, e_sne, e_ta1, e_ta2, Nat.zero_add, Nat.add_zero, Bool.not_true, Bool.not_false]
    refine ld1_r r1 rfl ?_
    try simp only [e_fd, e_nck, e_pkt, e_pkf, e_gdtt, e_gdtf, e_gdft, e_gdff, e_ift, e_iff, e_not, e_ln, e_lnT, e_cp, e_cvi, e_ex20, e_ex21, e_ex30, e_ex31, e_ex32, e_add, e_sub, e_mul, e_quo, e_rem, e_and, e_or, e_xor, e_shl, e_shr, e_eql, e_neq, e_lss, e_leq, e_gtr, e_geq, e_beq, e_bne, e_peq1, e_peq2, e_pne1, e_pne2, e_zeq1, e_zeq2, e_zne1, e_zne2, e_feq1, e_fne1, e_feq2, e_fne2, e_seq, e_sne, e_ta1, e_ta2, Nat.zero_add, Nat.add_zero, Bool.not_true, Bool.not_false]
    have h0 : 0 ≤ IntKind.u64.wrap ((8 * i : Nat) : Int) := by
      have : ∀ i : Nat, i < 8 → 0 ≤ IntKind.u64.wrap ((8 * i : Nat) : Int) := by decide
      exact this i hi
    refine ⟨h0, ?_⟩
    refine st1_r r1 (by simp) rfl fun w2 r2 hk2 hz2 => ?_
    refine ld1_r r2 rfl ?_
    try simp only [e_fd, e_nck, e_pkt, e_pkf, e_gdtt, e_gdtf, e_gdft, e_gdff, e_ift, e_iff, e_not, e_ln, e_lnT, e_cp, e_cvi, e_ex20, e_ex21, e_ex30, e_ex31, e_ex32, e_add, e_sub, e_mul, e_quo, e_rem, e_and, e_or, e_xor, e_shl, e_shr, e_eql, e_neq, e_lss, e_leq, e_gtr, e_geq, e_beq, e_bne, e_peq1, e_peq2, e_pne1, e_pne2, e_zeq1, e_zeq2, e_zne1, e_zne2, e_feq1, e_fne1, e_feq2, e_fne2, e_seq, e_sne, e_ta1, e_ta2, Nat.zero_add, Nat.add_zero, Bool.not_true, Bool.not_false]
    refine st1_r r2 (by simp) rfl fun w3 r3 hk3 hz3 => ?_
    rw [wrap64_id (by omega) (by omega), show ((8 * i : Nat) : Int) + 8 = ((8 * (i + 1) : Nat) : Int) by omega]
    refine hB _ _ ⟨rfl, ?_, (hk1.trans hk2).trans hk3, by omega⟩
    rw [List.range_succ, List.foldl_append]
    exact r3
  · rintro l w1 ⟨rfl, r1, hk1, hz1⟩ B
    rw [s132_p2_Fe]
    unfold s132_p1
    have e1 : ¬ ((8 * 8 : Nat) : Int) < 64 := by decide
    simp only [e1, decide_false, e_fd, e_nck, e_pkt, e_pkf, e_gdtt, e_gdtf, e_gdft, e_gdff, e_ift, e_iff, e_not, e_ln, e_lnT, e_cp, e_cvi, e_ex20, e_ex21, e_ex30, e_ex31, e_ex32, e_add, e_sub, e_mul, e_quo, e_rem, e_and, e_or, e_xor, e_shl, e_shr, e_eql, e_neq, e_lss, e_leq, e_gtr, e_geq, e_beq, e_bne, e_peq1, e_peq2, e_pne1, e_pne2, e_zeq1, e_zeq2, e_zne1, e_zne2, e_feq1, e_fne1, e_feq2, e_fne2, e_seq, e_sne, e_ta1, e_ta2, Nat.zero_add, Nat.add_zero, Bool.not_true, Bool.not_false]
    exact hK w1 r1 hk1 hz1
/-- a state of the digest while the configuration is read -/
structure Dg (F : Nat → Prop) (w0 w : World) (cb db : Nat) (C : Cfg) (va vt : Value) (d : Int) : Prop where
  rc : Row w cb 75 (C.cells va vt)
  rd : Row w db 205 [U32 d]
  kp : Kp Emp w0 w
  h0 : w0.heap.size ≤ db
  h1 : w0.heap.size ≤ cb
theorem Dg.add {w0 w : World} {cb : Nat} {va vt : Value} {d n : Int} (h : Dg F w0 w cb db C va vt d) (hK : ∀ w', Dg F w0 w' cb db C va vt (dAdd d n) → Kp (fun b => b = db) w w' → K (.tuple #[]) w') : cl Tryz.prog 132 #[P db 0, I n] K w := by
  refine dadd_ok h.rd fun w1 r1 hk1 hz1 => ?_
  have := h.h0
  exact hK w1 ⟨hk1.row h.rc (row_ne h.rc h.rd (by decide)), r1, h.kp.then hk1 fun k hk (q : k = db) => by omega, h.h0, h.h1⟩ hk1
theorem fold_flat {α : Type} {g : α → List Int} {xs : List α} {i : Nat} (h : i < xs.length) (d : Int) : ((xs.take (i + 1)).flatMap g).foldl dAdd d = (g xs[i]).foldl dAdd (((xs.take i).flatMap g).foldl dAdd d) := by
  rw [List.take_succ_eq_append_getElem h, List.flatMap_append, List.foldl_append]; simp
theorem fold_tk {xs : List Int} {i : Nat} (h : i < xs.length) (d : Int) : (xs.take (i + 1)).foldl dAdd d = dAdd ((xs.take i).foldl dAdd d) xs[i] := by
  rw [List.take_succ_eq_append_getElem h, List.foldl_append, List.foldl_cons, List.foldl_nil]
theorem fingerprint_ok (h : Cg F w l C) (hC : Cok C) (hK : ∀ w', Kp Emp w w' → K (I (fp C)) w') : cl Tryz.prog 105 #[.agg l.toArray] K w := by
  obtain ⟨va, vt, rfl, ha, rvs, hr, hrl, hrs⟩ := h.ex
  have hca := hC.a
  have hct := hC.t
  apply c105
  unfold s105_p18
  refine nw_r fun w1 r1 hk1 hz1 => ?_
  replace r1 : Row w1 w.heap.size 75 (C.cells va vt) := r1
  refine nw_r fun w2 r2 hk2 hz2 => ?_
  refine st1_r r2 (by simp) rfl fun w3 r3 hk3 hz3 => ?_
  have g3 : Dg F w w3 w.heap.size w1.heap.size C va vt 2166136261 := ⟨hk3.row (hk2.row' r1) (by omega), r3, (hk1.trans hk2).then hk3 fun k hk (q : k = _) => by omega, by omega, by omega⟩
  try simp only [e_fd, e_nck, e_pkt, e_pkf, e_gdtt, e_gdtf, e_gdft, e_gdff, e_ift, e_iff, e_not, e_ln, e_lnT, e_cp, e_cvi, e_ex20, e_ex21, e_ex30, e_ex31, e_ex32, e_add, e_sub, e_mul, e_quo, e_rem, e_and, e_or, e_xor, e_shl, e_shr, e_eql, e_neq, e_lss, e_leq, e_gtr, e_geq, e_beq, e_bne, e_peq1, e_peq2, e_pne1, e_pne2, e_zeq1, e_zeq2, e_zne1, e_zne2, e_feq1, e_fne1, e_feq2, e_fne2, e_seq, e_sne, e_ta1, e_ta2, Nat.zero_add, Nat.add_zero, Bool.not_true, Bool.not_false]
  refine ld1_r g3.rc rfl ?_
  refine ha.ln ?_
  refine g3.add fun w4 g4 hk4 => ?_
  try simp only [e_fd, e_nck, e_pkt, e_pkf, e_gdtt, e_gdtf, e_gdft, e_gdff, e_ift, e_iff, e_not, e_ln, e_lnT, e_cp, e_cvi, e_ex20, e_ex21, e_ex30, e_ex31, e_ex32, e_add, e_sub, e_mul, e_quo, e_rem, e_and, e_or, e_xor, e_shl, e_shr, e_eql, e_neq, e_lss, e_leq, e_gtr, e_geq, e_beq, e_bne, e_peq1, e_peq2, e_pne1, e_pne2, e_zeq1, e_zeq2, e_zne1, e_zne2, e_feq1, e_fne1, e_feq2, e_fne2, e_seq, e_sne, e_ta1, e_ta2, Nat.zero_add, Nat.add_zero, Bool.not_true, Bool.not_false]
  refine ld1_r g4.rc rfl ?_
  refine ha.ln ?_
  generalize hd0 : dAdd 2166136261 ((C.ats.length : Nat) : Int) = d0 at g4
  have last : ∀ w5, Dg F w w5 w.heap.size w1.heap.size C va vt (C.tr.flatten.foldl dAdd ((C.ats.flatMap aNums).foldl dAdd d0)) → s105_p4 K (P w.heap.size 0) (P w1.heap.size 0) w5 := by
    intro w5 g5
    unfold s105_p4
    try simp only [e_fd, e_nck, e_pkt, e_pkf, e_gdtt, e_gdtf, e_gdft, e_gdff, e_ift, e_iff, e_not, e_ln, e_lnT, e_cp, e_cvi, e_ex20, e_ex21, e_ex30, e_ex31, e_ex32, e_add, e_sub, e_mul, e_quo, e_rem, e_and, e_or, e_xor, e_shl, e_shr, e_eql, e_neq, e_lss, e_leq, e_gtr, e_geq, e_beq, e_bne, e_peq1, e_peq2, e_pne1, e_pne2, e_zeq1, e_zeq2, e_zne1, e_zne2, e_feq1, e_fne1, e_feq2, e_fne2, e_seq, e_sne, e_ta1, e_ta2, Nat.zero_add, Nat.add_zero, Bool.not_true, Bool.not_false]
    refine ld1_r g5.rc rfl ?_
    refine ld1_r g5.rc rfl ?_
    refine ld1_r g5.rc rfl ?_
    refine ld1_r g5.rc rfl ?_
    refine ld1_r g5.rc rfl ?_
    refine ld1_r g5.rc rfl ?_
    refine ld1_r g5.rc rfl ?_
    refine ld1_r g5.rc rfl ?_
    refine ld1_r g5.rc rfl ?_
    refine ld1_r g5.rc rfl ?_
    refine bsq_r (l := [C.hz, C.mc, C.mp, C.ml, C.ht, C.gr, C.rt, C.of, C.mb, C.mx].map I) rfl fun w6 r6 hk6 hz6 => ?_
    have g6 : Dg F w w6 w.heap.size w1.heap.size C va vt _ := ⟨hk6.row' g5.rc, hk6.row' g5.rd, g5.kp.trans hk6, g5.h0, g5.h1⟩
    try simp only [e_fd, e_nck, e_pkt, e_pkf, e_gdtt, e_gdtf, e_gdft, e_gdff, e_ift, e_iff, e_not, e_ln, e_lnT, e_cp, e_cvi, e_ex20, e_ex21, e_ex30, e_ex31, e_ex32, e_add, e_sub, e_mul, e_quo, e_rem, e_and, e_or, e_xor, e_shl, e_shr, e_eql, e_neq, e_lss, e_leq, e_gtr, e_geq, e_beq, e_bne, e_peq1, e_peq2, e_pne1, e_pne2, e_zeq1, e_zeq2, e_zne1, e_zne2, e_feq1, e_fne1, e_feq2, e_fne2, e_seq, e_sne, e_ta1, e_ta2, Nat.zero_add, Nat.add_zero, Bool.not_true, Bool.not_false]
    have a6 : Ar iC 1 (fun b => b = w5.heap.size) w6 (.slice (some ⟨w5.heap.size, 0, none⟩) 10 10) [C.hz, C.mc, C.mp, C.ml, C.ht, C.gr, C.rt, C.of, C.mb, C.mx] := Ar.row (xs := [C.hz, C.mc, C.mp, C.ml, C.ht, C.gr, C.rt, C.of, C.mb, C.mx]) iC_len (by rw [rows_iC]; exact r6) rfl (by simp)
    have dlt5 := g5.rd.lt
    generalize hxs : [C.hz, C.mc, C.mp, C.ml, C.ht, C.gr, C.rt, C.of, C.mb, C.mx] = xs at a6
    have hxl : xs.length = 10 := by rw [← hxs]; rfl
    unfold s105_p3
    refine loop_n 10 (fun i l w' => l = [P w1.heap.size 0, .slice (some ⟨w5.heap.size, 0, none⟩) 10 10, I 10, I (i : Nat)] ∧ Dg F w w' w.heap.size w1.heap.size C va vt ((xs.take i).foldl dAdd (C.tr.flatten.foldl dAdd ((C.ats.flatMap aNums).foldl dAdd d0))) ∧ Ar iC 1 (fun b => b = w5.heap.size) w' (.slice (some ⟨w5.heap.size, 0, none⟩) 10 10) xs) ⟨rfl, g6, a6⟩ ?_ ?_
    · rintro i l w7 hi ⟨rfl, g7, a7⟩ B hB
      rw [s105_p3_Fe]
      unfold s105_p2
      have e1 : ((i : Nat) : Int) < 10 := by omega
      simp only [e1, decide_true, e_fd, e_nck, e_pkt, e_pkf, e_gdtt, e_gdtf, e_gdft, e_gdff, e_ift, e_iff, e_not, e_ln, e_lnT, e_cp, e_cvi, e_ex20, e_ex21, e_ex30, e_ex31, e_ex32, e_add, e_sub, e_mul, e_quo, e_rem, e_and, e_or, e_xor, e_shl, e_shr, e_eql, e_neq, e_lss, e_leq, e_gtr, e_geq, e_beq, e_bne, e_peq1, e_peq2, e_pne1, e_pne2, e_zeq1, e_zeq2, e_zne1, e_zne2, e_feq1, e_fne1, e_feq2, e_fne2, e_seq, e_sne, e_ta1, e_ta2, Nat.zero_add, Nat.add_zero, Bool.not_true, Bool.not_false]
      refine a7.ix (by omega) fun b o _ hc => ?_
      refine hc.ld0 rfl ?_
      refine g7.add fun w8 g8 hk8 => ?_
      try simp only [e_fd, e_nck, e_pkt, e_pkf, e_gdtt, e_gdtf, e_gdft, e_gdff, e_ift, e_iff, e_not, e_ln, e_lnT, e_cp, e_cvi, e_ex20, e_ex21, e_ex30, e_ex31, e_ex32, e_add, e_sub, e_mul, e_quo, e_rem, e_and, e_or, e_xor, e_shl, e_shr, e_eql, e_neq, e_lss, e_leq, e_gtr, e_geq, e_beq, e_bne, e_peq1, e_peq2, e_pne1, e_pne2, e_zeq1, e_zeq2, e_zne1, e_zne2, e_feq1, e_fne1, e_feq2, e_fne2, e_seq, e_sne, e_ta1, e_ta2, Nat.zero_add, Nat.add_zero, Bool.not_true, Bool.not_false]
      rw [inc i (by omega)]
      refine hB _ _ ⟨rfl, by rw [fold_tk (by omega)]; exact g8, a7.kp hk8 fun b (e : b = _) (q : b = _) => by omega⟩
    · rintro l w7 ⟨rfl, g7, a7⟩ B
      rw [s105_p3_Fe]
      unfold s105_p2
      have e1 : ¬ ((10 : Nat) : Int) < 10 := by decide
      simp only [e1, decide_false, e_fd, e_nck, e_pkt, e_pkf, e_gdtt, e_gdtf, e_gdft, e_gdff, e_ift, e_iff, e_not, e_ln, e_lnT, e_cp, e_cvi, e_ex20, e_ex21, e_ex30, e_ex31, e_ex32, e_add, e_sub, e_mul, e_quo, e_rem, e_and, e_or, e_xor, e_shl, e_shr, e_eql, e_neq, e_lss, e_leq, e_gtr, e_geq, e_beq, e_bne, e_peq1, e_peq2, e_pne1, e_pne2, e_zeq1, e_zeq2, e_zne1, e_zne2, e_feq1, e_fne1, e_feq2, e_fne2, e_seq, e_sne, e_ta1, e_ta2, Nat.zero_add, Nat.add_zero, Bool.not_true, Bool.not_false]
      unfold s105_p1
      refine ld1_r g7.rd rfl ?_
      try simp only [e_fd, e_nck, e_pkt, e_pkf, e_gdtt, e_gdtf, e_gdft, e_gdff, e_ift, e_iff, e_not, e_ln, e_lnT, e_cp, e_cvi, e_ex20, e_ex21, e_ex30, e_ex31, e_ex32, e_add, e_sub, e_mul, e_quo, e_rem, e_and, e_or, e_xor, e_shl, e_shr, e_eql, e_neq, e_lss, e_leq, e_gtr, e_geq, e_beq, e_bne, e_peq1, e_peq2, e_pne1, e_pne2, e_zeq1, e_zeq2, e_zne1, e_zne2, e_feq1, e_fne1, e_feq2, e_fne2, e_seq, e_sne, e_ta1, e_ta2, Nat.zero_add, Nat.add_zero, Bool.not_true, Bool.not_false]
      rw [List.take_of_length_le (by omega)]
      have := hK w7 g7.kp
      unfold fp nums at this
      rw [hxs, List.foldl_append, List.foldl_append, List.foldl_cons, hd0] at this
      exact this
  unfold s105_p17
  refine loop_n C.ats.length (fun i l w' => l = [P w.heap.size 0, P w1.heap.size 0, va, I (C.ats.length : Nat), I (i : Nat)] ∧ Dg F w w' w.heap.size w1.heap.size C va vt (((C.ats.take i).flatMap aNums).foldl dAdd d0)) ⟨rfl, by simpa using g4⟩ ?_ ?_
  · rintro i l w5 hi ⟨rfl, g5⟩ B hB
    rw [s105_p17_Fe]
    unfold s105_p16
    simp only [dlt hi, e_fd, e_nck, e_pkt, e_pkf, e_gdtt, e_gdtf, e_gdft, e_gdff, e_ift, e_iff, e_not, e_ln, e_lnT, e_cp, e_cvi, e_ex20, e_ex21, e_ex30, e_ex31, e_ex32, e_add, e_sub, e_mul, e_quo, e_rem, e_and, e_or, e_xor, e_shl, e_shr, e_eql, e_neq, e_lss, e_leq, e_gtr, e_geq, e_beq, e_bne, e_peq1, e_peq2, e_pne1, e_pne2, e_zeq1, e_zeq2, e_zne1, e_zne2, e_feq1, e_fne1, e_feq2, e_fne2, e_seq, e_sne, e_ta1, e_ta2, Nat.zero_add, Nat.add_zero, Bool.not_true, Bool.not_false]
    unfold s105_p15
    refine ha.ix hi fun b o _ hc => ?_
    refine ((hc.kp' g5.kp).ldn (Att.len _)) ?_
    refine nw_r fun w6 r6 hk6 hz6 => ?_
    refine stn_r (cs := C.ats[i].cells) r6 rfl (show 0 + 5 ≤ 5 by decide) (Att.sc _) fun w7 r7 hk7 hz7 => ?_
    replace r7 : Row w7 w5.heap.size 129 C.ats[i].cells := r7
    have clt := g5.rc.lt
    have dlt5 := g5.rd.lt
    have g7 : Dg F w w7 w.heap.size w1.heap.size C va vt (((C.ats.take i).flatMap aNums).foldl dAdd d0) := ⟨hk7.row (hk6.row' g5.rc) (by omega), hk7.row (hk6.row' g5.rd) (by omega), (g5.kp.trans hk6).then hk7 fun k hk (q : k = _) => by have := g5.kp.size; omega, g5.h0, g5.h1⟩
    try simp only [e_fd, e_nck, e_pkt, e_pkf, e_gdtt, e_gdtf, e_gdft, e_gdff, e_ift, e_iff, e_not, e_ln, e_lnT, e_cp, e_cvi, e_ex20, e_ex21, e_ex30, e_ex31, e_ex32, e_add, e_sub, e_mul, e_quo, e_rem, e_and, e_or, e_xor, e_shl, e_shr, e_eql, e_neq, e_lss, e_leq, e_gtr, e_geq, e_beq, e_bne, e_peq1, e_peq2, e_pne1, e_pne2, e_zeq1, e_zeq2, e_zne1, e_zne2, e_feq1, e_fne1, e_feq2, e_fne2, e_seq, e_sne, e_ta1, e_ta2, Nat.zero_add, Nat.add_zero, Bool.not_true, Bool.not_false]
    refine ld1_r r7 rfl ?_
    refine g7.add fun w8 g8 hk8 => ?_
    try simp only [e_fd, e_nck, e_pkt, e_pkf, e_gdtt, e_gdtf, e_gdft, e_gdff, e_ift, e_iff, e_not, e_ln, e_lnT, e_cp, e_cvi, e_ex20, e_ex21, e_ex30, e_ex31, e_ex32, e_add, e_sub, e_mul, e_quo, e_rem, e_and, e_or, e_xor, e_shl, e_shr, e_eql, e_neq, e_lss, e_leq, e_gtr, e_geq, e_beq, e_bne, e_peq1, e_peq2, e_pne1, e_pne2, e_zeq1, e_zeq2, e_zne1, e_zne2, e_feq1, e_fne1, e_feq2, e_fne2, e_seq, e_sne, e_ta1, e_ta2, Nat.zero_add, Nat.add_zero, Bool.not_true, Bool.not_false]
    refine ld1_r (hk8.row r7 (by omega)) rfl ?_
    refine g8.add fun w9 g9 hk9 => ?_
    try simp only [e_fd, e_nck, e_pkt, e_pkf, e_gdtt, e_gdtf, e_gdft, e_gdff, e_ift, e_iff, e_not, e_ln, e_lnT, e_cp, e_cvi, e_ex20, e_ex21, e_ex30, e_ex31, e_ex32, e_add, e_sub, e_mul, e_quo, e_rem, e_and, e_or, e_xor, e_shl, e_shr, e_eql, e_neq, e_lss, e_leq, e_gtr, e_geq, e_beq, e_bne, e_peq1, e_peq2, e_pne1, e_pne2, e_zeq1, e_zeq2, e_zne1, e_zne2, e_feq1, e_fne1, e_feq2, e_fne2, e_seq, e_sne, e_ta1, e_ta2, Nat.zero_add, Nat.add_zero, Bool.not_true, Bool.not_false]
    refine ldn_r (hk9.row (hk8.row r7 (by omega)) (by omega)) (show 2 + 3 ≤ 5 by decide) ?_
    show s105_p14 K B (P w.heap.size 0) (P w1.heap.size 0) va (I (C.ats.length : Nat)) (I (i : Nat)) (.agg #[I C.ats[i].q0, I C.ats[i].q1, I C.ats[i].q2]) (I 0) w9
    generalize hqs : [C.ats[i].q0, C.ats[i].q1, C.ats[i].q2] = qs
    have hql : qs.length = 3 := by rw [← hqs]; rfl
    have hqa : (#[I C.ats[i].q0, I C.ats[i].q1, I C.ats[i].q2] : Array Value) = (qs.map I).toArray := by rw [← hqs]; rfl
    rw [hqa]
    generalize hd9 : dAdd (dAdd (((C.ats.take i).flatMap aNums).foldl dAdd d0) C.ats[i].cap) C.ats[i].dw = d9 at g9
    unfold s105_p14
    refine loop_n 3 (fun k l w' => l = [P w.heap.size 0, P w1.heap.size 0, va, I (C.ats.length : Nat), I (i : Nat), .agg (qs.map I).toArray, I (k : Nat)] ∧ Dg F w w' w.heap.size w1.heap.size C va vt ((qs.take k).foldl dAdd d9)) ⟨rfl, g9⟩ ?_ ?_
    · rintro k l w10 hk ⟨rfl, g10⟩ B2 hB2
      rw [s105_p14_Fe]
      unfold s105_p13
      have e1 : ((k : Nat) : Int) < 3 := by omega
      simp only [e1, decide_true, e_fd, e_nck, e_pkt, e_pkf, e_gdtt, e_gdtf, e_gdft, e_gdff, e_ift, e_iff, e_not, e_ln, e_lnT, e_cp, e_cvi, e_ex20, e_ex21, e_ex30, e_ex31, e_ex32, e_add, e_sub, e_mul, e_quo, e_rem, e_and, e_or, e_xor, e_shl, e_shr, e_eql, e_neq, e_lss, e_leq, e_gtr, e_geq, e_beq, e_bne, e_peq1, e_peq2, e_pne1, e_pne2, e_zeq1, e_zeq2, e_zne1, e_zne2, e_feq1, e_fne1, e_feq2, e_fne2, e_seq, e_sne, e_ta1, e_ta2, Nat.zero_add, Nat.add_zero, Bool.not_true, Bool.not_false]
      have hkq : k < qs.length := by omega
      refine iv_r (v := I qs[k]) ivq (by omega) (by omega) (by
        have e : ((k : Nat) : Int).toNat = k := by omega
        rw [e, List.getElem?_toArray, List.getElem?_map, List.getElem?_eq_getElem hkq]; rfl) ?_
      refine g10.add fun w11 g11 hk11 => ?_
      try simp only [e_fd, e_nck, e_pkt, e_pkf, e_gdtt, e_gdtf, e_gdft, e_gdff, e_ift, e_iff, e_not, e_ln, e_lnT, e_cp, e_cvi, e_ex20, e_ex21, e_ex30, e_ex31, e_ex32, e_add, e_sub, e_mul, e_quo, e_rem, e_and, e_or, e_xor, e_shl, e_shr, e_eql, e_neq, e_lss, e_leq, e_gtr, e_geq, e_beq, e_bne, e_peq1, e_peq2, e_pne1, e_pne2, e_zeq1, e_zeq2, e_zne1, e_zne2, e_feq1, e_fne1, e_feq2, e_fne2, e_seq, e_sne, e_ta1, e_ta2, Nat.zero_add, Nat.add_zero, Bool.not_true, Bool.not_false]
      rw [inc k (by omega)]
      exact hB2 _ _ ⟨rfl, by rw [fold_tk hkq]; exact g11⟩
    · rintro l w10 ⟨rfl, g10⟩ B2
      rw [s105_p14_Fe]
      unfold s105_p13
      have e1 : ¬ ((3 : Nat) : Int) < 3 := by decide
      simp only [e1, decide_false, e_fd, e_nck, e_pkt, e_pkf, e_gdtt, e_gdtf, e_gdft, e_gdff, e_ift, e_iff, e_not, e_ln, e_lnT, e_cp, e_cvi, e_ex20, e_ex21, e_ex30, e_ex31, e_ex32, e_add, e_sub, e_mul, e_quo, e_rem, e_and, e_or, e_xor, e_shl, e_shr, e_eql, e_neq, e_lss, e_leq, e_gtr, e_geq, e_beq, e_bne, e_peq1, e_peq2, e_pne1, e_pne2, e_zeq1, e_zeq2, e_zne1, e_zne2, e_feq1, e_fne1, e_feq2, e_fne2, e_seq, e_sne, e_ta1, e_ta2, Nat.zero_add, Nat.add_zero, Bool.not_true, Bool.not_false]
      unfold s105_p12
      try simp only [e_fd, e_nck, e_pkt, e_pkf, e_gdtt, e_gdtf, e_gdft, e_gdff, e_ift, e_iff, e_not, e_ln, e_lnT, e_cp, e_cvi, e_ex20, e_ex21, e_ex30, e_ex31, e_ex32, e_add, e_sub, e_mul, e_quo, e_rem, e_and, e_or, e_xor, e_shl, e_shr, e_eql, e_neq, e_lss, e_leq, e_gtr, e_geq, e_beq, e_bne, e_peq1, e_peq2, e_pne1, e_pne2, e_zeq1, e_zeq2, e_zne1, e_zne2, e_feq1, e_fne1, e_feq2, e_fne2, e_seq, e_sne, e_ta1, e_ta2, Nat.zero_add, Nat.add_zero, Bool.not_true, Bool.not_false]
      rw [inc i (by omega)]
      refine hB _ _ ⟨rfl, ?_⟩
      rw [fold_flat hi]
      have e3 : (aNums C.ats[i]).foldl dAdd (((C.ats.take i).flatMap aNums).foldl dAdd d0) = qs.foldl dAdd d9 := by
        rw [← hqs, ← hd9]; simp only [aNums, List.foldl_cons, List.foldl_nil]
      rw [e3]
      rw [List.take_of_length_le (by omega)] at g10
      exact g10
  · rintro l w5 ⟨rfl, g5⟩ B
    rw [s105_p17_Fe]
    unfold s105_p16
    simp only [dnlt, e_fd, e_nck, e_pkt, e_pkf, e_gdtt, e_gdtf, e_gdft, e_gdff, e_ift, e_iff, e_not, e_ln, e_lnT, e_cp, e_cvi, e_ex20, e_ex21, e_ex30, e_ex31, e_ex32, e_add, e_sub, e_mul, e_quo, e_rem, e_and, e_or, e_xor, e_shl, e_shr, e_eql, e_neq, e_lss, e_leq, e_gtr, e_geq, e_beq, e_bne, e_peq1, e_peq2, e_pne1, e_pne2, e_zeq1, e_zeq2, e_zne1, e_zne2, e_feq1, e_fne1, e_feq2, e_fne2, e_seq, e_sne, e_ta1, e_ta2, Nat.zero_add, Nat.add_zero, Bool.not_true, Bool.not_false]
    rw [List.take_length] at g5
    generalize hd5 : (C.ats.flatMap aNums).foldl dAdd d0 = d5 at g5 last
    unfold s105_p11
    try simp only [e_fd, e_nck, e_pkt, e_pkf, e_gdtt, e_gdtf, e_gdft, e_gdff, e_ift, e_iff, e_not, e_ln, e_lnT, e_cp, e_cvi, e_ex20, e_ex21, e_ex30, e_ex31, e_ex32, e_add, e_sub, e_mul, e_quo, e_rem, e_and, e_or, e_xor, e_shl, e_shr, e_eql, e_neq, e_lss, e_leq, e_gtr, e_geq, e_beq, e_bne, e_peq1, e_peq2, e_pne1, e_pne2, e_zeq1, e_zeq2, e_zne1, e_zne2, e_feq1, e_fne1, e_feq2, e_fne2, e_seq, e_sne, e_ta1, e_ta2, Nat.zero_add, Nat.add_zero, Bool.not_true, Bool.not_false]
    refine ld1_r g5.rc rfl ?_
    refine hr.ln ?_
    unfold s105_p10
    refine loop_n rvs.length (fun i l w' => l = [P w.heap.size 0, P w1.heap.size 0, vt, I (rvs.length : Nat), I (i : Nat)] ∧ Dg F w w' w.heap.size w1.heap.size C va vt ((C.tr.take i).flatten.foldl dAdd d5)) ⟨rfl, by simpa using g5⟩ ?_ ?_
    · rintro i l w6 hi ⟨rfl, g6⟩ B hB
      have hi2 : i < C.tr.length := by omega
      rw [s105_p10_Fe]
      unfold s105_p9
      simp only [dlt hi, e_fd, e_nck, e_pkt, e_pkf, e_gdtt, e_gdtf, e_gdft, e_gdff, e_ift, e_iff, e_not, e_ln, e_lnT, e_cp, e_cvi, e_ex20, e_ex21, e_ex30, e_ex31, e_ex32, e_add, e_sub, e_mul, e_quo, e_rem, e_and, e_or, e_xor, e_shl, e_shr, e_eql, e_neq, e_lss, e_leq, e_gtr, e_geq, e_beq, e_bne, e_peq1, e_peq2, e_pne1, e_pne2, e_zeq1, e_zeq2, e_zne1, e_zne2, e_feq1, e_fne1, e_feq2, e_fne2, e_seq, e_sne, e_ta1, e_ta2, Nat.zero_add, Nat.add_zero, Bool.not_true, Bool.not_false]
      unfold s105_p8
      refine hr.ix hi fun b o _ hc => ?_
      refine (hc.kp' g6.kp).ld0 rfl ?_
      have hrow := hrs i hi hi2
      have hrl2 := hC.r _ (List.getElem_mem hi2)
      refine hrow.ln ?_
      unfold s105_p7
      refine loop_n C.tr[i].length (fun k l w' => l = [P w.heap.size 0, P w1.heap.size 0, vt, I (rvs.length : Nat), I (i : Nat), rvs[i], I (C.tr[i].length : Nat), I (k : Nat)] ∧ Dg F w w' w.heap.size w1.heap.size C va vt ((C.tr[i].take k).foldl dAdd ((C.tr.take i).flatten.foldl dAdd d5))) ⟨rfl, g6⟩ ?_ ?_
      · rintro k l w7 hk ⟨rfl, g7⟩ B2 hB2
        rw [s105_p7_Fe]
        unfold s105_p6
        simp only [dlt hk, e_fd, e_nck, e_pkt, e_pkf, e_gdtt, e_gdtf, e_gdft, e_gdff, e_ift, e_iff, e_not, e_ln, e_lnT, e_cp, e_cvi, e_ex20, e_ex21, e_ex30, e_ex31, e_ex32, e_add, e_sub, e_mul, e_quo, e_rem, e_and, e_or, e_xor, e_shl, e_shr, e_eql, e_neq, e_lss, e_leq, e_gtr, e_geq, e_beq, e_bne, e_peq1, e_peq2, e_pne1, e_pne2, e_zeq1, e_zeq2, e_zne1, e_zne2, e_feq1, e_fne1, e_feq2, e_fne2, e_seq, e_sne, e_ta1, e_ta2, Nat.zero_add, Nat.add_zero, Bool.not_true, Bool.not_false]
        refine hrow.ix hk fun b o _ hc => ?_
        refine (hc.kp' g7.kp).ld0 rfl ?_
        refine g7.add fun w8 g8 hk8 => ?_
        try simp only [e_fd, e_nck, e_pkt, e_pkf, e_gdtt, e_gdtf, e_gdft, e_gdff, e_ift, e_iff, e_not, e_ln, e_lnT, e_cp, e_cvi, e_ex20, e_ex21, e_ex30, e_ex31, e_ex32, e_add, e_sub, e_mul, e_quo, e_rem, e_and, e_or, e_xor, e_shl, e_shr, e_eql, e_neq, e_lss, e_leq, e_gtr, e_geq, e_beq, e_bne, e_peq1, e_peq2, e_pne1, e_pne2, e_zeq1, e_zeq2, e_zne1, e_zne2, e_feq1, e_fne1, e_feq2, e_fne2, e_seq, e_sne, e_ta1, e_ta2, Nat.zero_add, Nat.add_zero, Bool.not_true, Bool.not_false]
        rw [inc k (by omega)]
        exact hB2 _ _ ⟨rfl, by rw [fold_tk hk]; exact g8⟩
      · rintro l w7 ⟨rfl, g7⟩ B2
        rw [s105_p7_Fe]
        unfold s105_p6
        simp only [dnlt, e_fd, e_nck, e_pkt, e_pkf, e_gdtt, e_gdtf, e_gdft, e_gdff, e_ift, e_iff, e_not, e_ln, e_lnT, e_cp, e_cvi, e_ex20, e_ex21, e_ex30, e_ex31, e_ex32, e_add, e_sub, e_mul, e_quo, e_rem, e_and, e_or, e_xor, e_shl, e_shr, e_eql, e_neq, e_lss, e_leq, e_gtr, e_geq, e_beq, e_bne, e_peq1, e_peq2, e_pne1, e_pne2, e_zeq1, e_zeq2, e_zne1, e_zne2, e_feq1, e_fne1, e_feq2, e_fne2, e_seq, e_sne, e_ta1, e_ta2, Nat.zero_add, Nat.add_zero, Bool.not_true, Bool.not_false]
        unfold s105_p5
        try simp only [e_fd, e_nck, e_pkt, e_pkf, e_gdtt, e_gdtf, e_gdft, e_gdff, e_ift, e_iff, e_not, e_ln, e_lnT, e_cp, e_cvi, e_ex20, e_ex21, e_ex30, e_ex31, e_ex32, e_add, e_sub, e_mul, e_quo, e_rem, e_and, e_or, e_xor, e_shl, e_shr, e_eql, e_neq, e_lss, e_leq, e_gtr, e_geq, e_beq, e_bne, e_peq1, e_peq2, e_pne1, e_pne2, e_zeq1, e_zeq2, e_zne1, e_zne2, e_feq1, e_fne1, e_feq2, e_fne2, e_seq, e_sne, e_ta1, e_ta2, Nat.zero_add, Nat.add_zero, Bool.not_true, Bool.not_false]
        rw [inc i (by omega)]
        refine hB _ _ ⟨rfl, ?_⟩
        rw [List.take_length] at g7
        rw [List.take_succ_eq_append_getElem hi2, List.flatten_append, List.foldl_append]
        simpa using g7
    · rintro l w6 ⟨rfl, g6⟩ B
      rw [s105_p10_Fe]
      unfold s105_p9
      simp only [dnlt, e_fd, e_nck, e_pkt, e_pkf, e_gdtt, e_gdtf, e_gdft, e_gdff, e_ift, e_iff, e_not, e_ln, e_lnT, e_cp, e_cvi, e_ex20, e_ex21, e_ex30, e_ex31, e_ex32, e_add, e_sub, e_mul, e_quo, e_rem, e_and, e_or, e_xor, e_shl, e_shr, e_eql, e_neq, e_lss, e_leq, e_gtr, e_geq, e_beq, e_bne, e_peq1, e_peq2, e_pne1, e_pne2, e_zeq1, e_zeq2, e_zne1, e_zne2, e_feq1, e_fne1, e_feq2, e_fne2, e_seq, e_sne, e_ta1, e_ta2, Nat.zero_add, Nat.add_zero, Bool.not_true, Bool.not_false]
      rw [hrl, List.take_length] at g6
      exact last w6 g6
end
end Go.Proofs.Qxb6500896aGreatDoor
