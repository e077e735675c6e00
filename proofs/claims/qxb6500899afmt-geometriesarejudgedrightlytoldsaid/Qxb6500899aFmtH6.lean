import Derived.Test.Qxb6500899aFmtH5
namespace Go.Proofs.Qxb6500899aFmt
open Go.Sh Go.RowKit
set_option linter.unusedVariables false
set_option linter.unusedSimpArgs false

set_option maxRecDepth 100000 in
theorem u27 : Tryf.prog.underlying 27 = some (.slice 5) := by kernel_rfl
set_option maxRecDepth 100000 in
theorem u5 : Tryf.prog.underlying 5 = some (.int .u8) := by kernel_rfl
set_option maxRecDepth 100000 in
theorem u69 : Tryf.prog.underlying 69 = some (.map 25 121) := by kernel_rfl
set_option maxRecDepth 100000 in
theorem u76 : Tryf.prog.underlying 76 = some (.map 25 25) := by kernel_rfl
set_option maxRecDepth 100000 in
theorem u25 : Tryf.prog.underlying 25 = some (.int .u64) := by kernel_rfl
set_option maxRecDepth 100000 in
theorem z5 (w : World) : (zeroValue 5).run Tryf.prog w = .ok (U8 0) w := by kernel_rfl
set_option maxRecDepth 100000 in
theorem z121 (w : World) : (zeroValue 121).run Tryf.prog w = .ok (.pointer none) w := by kernel_rfl
set_option maxRecDepth 100000 in
theorem z25 (w : World) : (zeroValue 25).run Tryf.prog w = .ok (U64 0) w := by kernel_rfl
section
variable {w w' w1 : World} {K : Value → World → Prop} {s n c : Nat} {db mb cb mm cm : Nat} {r ch sh mk : Int} {tk : Value} {b t cap : Nat} {l : List Value}
def zeros (n : Nat) : List Value := List.replicate n (U8 0)
theorem clear_ok (r : Row w b 5 l) (hl : l.length = n) (h0 : 0 < n) (hK : ∀ w', Row w' b 5 (zeros n) → Kp (fun k => k = b) w w' → w'.heap.size = w.heap.size → K (.tuple #[]) w') : rs Tryf.prog (Builtin.clear_ #[27] 0 #[.slice (some ⟨b, 0, none⟩) n cap]) K w := by
  have hst : stc ⟨b, 0, none⟩ 0 (zeros n) (fun w1 => Row w1 b 5 (zeros n) ∧ Kp (fun k => k = b) w w1 ∧ w1.heap.size = w.heap.size) w := by
    refine stc_r (zeros n) 0 w l r (by simp [zeros]; omega) (by simp [zeros, scal]) fun w1 r1 hk1 hz1 => ⟨?_, hk1, hz1⟩
    rw [List.take_zero, List.nil_append, List.drop_of_length_le (by simp [zeros]; omega), List.append_nil] at r1
    exact r1
  obtain ⟨w1, e1, r1, hk1, hz1⟩ := stc_run (P := Tryf.prog) _ _ _ _ hst
  refine rs_ok (v := .tuple #[]) (w' := w1) ?_ (hK w1 r1 hk1 hz1)
  have hzc : (Builtin.zeroCells (U8 0).cells n).toList = zeros n := by
    rw [Go.Sh.zeroCells_eq]
    show zrep [U8 0] (n * 1) = _
    rw [Nat.mul_one, zrep_one]
    rfl
  obtain ⟨m, rfl⟩ : ∃ m, n = m + 1 := ⟨n - 1, by omega⟩
  simp [Builtin.clear_, run_underlying u27, z5, hzc, e1]
theorem conv_ok (r : Row w b 5 (zeros n)) (hK : K (.string ⟨(List.replicate n (0 : UInt8)).toArray⟩) w) : rs Tryf.prog (convert 27 9 (.slice (some ⟨b, 0, none⟩) n cap)) K w := by
  have h := run_convert_bytes_back (P := Tryf.prog) w 27 9 5 ⟨b, 0, none⟩ cap (List.replicate n (0 : UInt8)) u27 u5 u9 (fun j hj => by
    rw [add_mk, Nat.zero_add, r.cell]
    simp only [List.length_replicate] at hj
    unfold zeros
    rw [List.getElem?_replicate, if_pos hj]
    simp)
  rw [List.length_replicate] at h
  exact rs_ok h hK
theorem equal_ok {b1 b2 c1 c2 : Nat} (r1 : Row w b1 5 (zeros n)) (r2 : Row w b2 5 (zeros n)) (hK : K (.bool true) w) : cl Tryf.prog 12 #[.slice (some ⟨b1, 0, none⟩) n c1, .slice (some ⟨b2, 0, none⟩) n c2] K w := by
  apply c12
  unfold s12_p1
  refine conv_ok r1 ?_
  refine conv_ok r2 ?_
  try simp only [e_fd, e_nck, e_pkt, e_pkf, e_gdtt, e_gdtf, e_gdft, e_gdff, e_ift, e_iff, e_not, e_ln, e_lnT, e_cp, e_cvi, e_ex20, e_ex21, e_ex30, e_ex31, e_ex32, e_add, e_sub, e_mul, e_quo, e_rem, e_and, e_or, e_xor, e_shl, e_shr, e_eql, e_neq, e_lss, e_leq, e_gtr, e_geq, e_beq, e_bne, e_peq1, e_peq2, e_pne1, e_pne2, e_zeq1, e_zeq2, e_zne1, e_zne2, e_feq1, e_fne1, e_feq2, e_fne2, e_seq, e_sne, e_ta1, e_ta2, Nat.zero_add, Nat.add_zero, Bool.not_true, Bool.not_false]
  rw [beq_self_eq_true]
  exact hK
theorem checkOne_ok {rq : Value} {sec : Nat} (h : Dk w db mb cb mm cm s n c r ch sh mk tk) (hs : sec < n) (hK : ∀ w', Kp (fun _ => False) w w' → K .nilIface w') : cl Tryf.prog 26 #[P db 0, rq, .agg #[U64 0, U64 (n : Nat)], U64 (sec : Nat), I (s : Nat)] K w := by
  apply c26
  unfold s26_p1
  refine nw_r fun w1 r1 hk1 hz1 => ?_
  replace r1 : Row w1 w.heap.size 65 [U64 0, U64 (n : Nat)] := r1
  try simp only [e_fd, e_nck, e_pkt, e_pkf, e_gdtt, e_gdtf, e_gdft, e_gdff, e_ift, e_iff, e_not, e_ln, e_lnT, e_cp, e_cvi, e_ex20, e_ex21, e_ex30, e_ex31, e_ex32, e_add, e_sub, e_mul, e_quo, e_rem, e_and, e_or, e_xor, e_shl, e_shr, e_eql, e_neq, e_lss, e_leq, e_gtr, e_geq, e_beq, e_bne, e_peq1, e_peq2, e_pne1, e_pne2, e_zeq1, e_zeq2, e_zne1, e_zne2, e_feq1, e_fne1, e_feq2, e_fne2, e_seq, e_sne, e_ta1, e_ta2, Nat.zero_add, Nat.add_zero, Bool.not_true, Bool.not_false]
  have h1 := h.kp' hk1
  refine ld1_r h1.row rfl ?_
  have e1 : (((s : Nat) : Int) != ((s : Nat) : Int)) = false := by simp
  simp only [e1, e_fd, e_nck, e_pkt, e_pkf, e_gdtt, e_gdtf, e_gdft, e_gdff, e_ift, e_iff, e_not, e_ln, e_lnT, e_cp, e_cvi, e_ex20, e_ex21, e_ex30, e_ex31, e_ex32, e_add, e_sub, e_mul, e_quo, e_rem, e_and, e_or, e_xor, e_shl, e_shr, e_eql, e_neq, e_lss, e_leq, e_gtr, e_geq, e_beq, e_bne, e_peq1, e_peq2, e_pne1, e_pne2, e_zeq1, e_zeq2, e_zne1, e_zne2, e_feq1, e_fne1, e_feq2, e_fne2, e_seq, e_sne, e_ta1, e_ta2, Nat.zero_add, Nat.add_zero, Bool.not_true, Bool.not_false]
  refine ld1_r r1 rfl ?_
  have e2 : ¬ ((n : Nat) : Int) ≤ ((sec : Nat) : Int) := by omega
  simp only [e2, decide_false, e_fd, e_nck, e_pkt, e_pkf, e_gdtt, e_gdtf, e_gdft, e_gdff, e_ift, e_iff, e_not, e_ln, e_lnT, e_cp, e_cvi, e_ex20, e_ex21, e_ex30, e_ex31, e_ex32, e_add, e_sub, e_mul, e_quo, e_rem, e_and, e_or, e_xor, e_shl, e_shr, e_eql, e_neq, e_lss, e_leq, e_gtr, e_geq, e_beq, e_bne, e_peq1, e_peq2, e_pne1, e_pne2, e_zeq1, e_zeq2, e_zne1, e_zne2, e_feq1, e_fne1, e_feq2, e_fne2, e_seq, e_sne, e_ta1, e_ta2, Nat.zero_add, Nat.add_zero, Bool.not_true, Bool.not_false]
  exact hK w1 hk1
theorem lk2_map {t kt et : TypeId} {q : IntKind} {b : Nat} {x : Int} {z : Value} (hm : Tryf.prog.underlying t = some (.map kt et)) (hk : Tryf.prog.underlying kt = some (.int q))
    (hz : (zeroValue et).run Tryf.prog w = .ok z w) (h : MapAt w b q []) (hK : K (.tuple #[z, .bool false]) w) : rs Tryf.prog (Instr.lookup t (.map (some b)) (.int q x) true) K w := by
  obtain ⟨es, clk, h1, h2⟩ := h
  have hf := findNow_none (q := q) (x := x) es.toList [] 0 h2 (by simp)
  refine rs_ok (v := .tuple #[z, .bool false]) (w' := w) ?_ hK
  have hc : (Instr.checkKey es.isEmpty 10000 kt (.int q x)).run Tryf.prog w = .ok () w := MapKept.run_checkKey (k := .int q x) hk (by simp [MapKept.IsKey]) es.isEmpty 9999
  simp [Instr.lookup, run_underlying hm, MapKept.run_getObj_map h1, hc, MapKept.run_findKey hk hf, hz, Result.andThen]
theorem find_ok {x : Int} (h : Dk w db mb cb mm cm s n c r ch sh mk tk) (hK : K (.tuple #[nilS, .bool false]) w) : cl Tryf.prog 28 #[P cb 0, U64 x] K w := by
  apply c28
  unfold s28_p1
  try simp only [e_fd, e_nck, e_pkt, e_pkf, e_gdtt, e_gdtf, e_gdft, e_gdff, e_ift, e_iff, e_not, e_ln, e_lnT, e_cp, e_cvi, e_ex20, e_ex21, e_ex30, e_ex31, e_ex32, e_add, e_sub, e_mul, e_quo, e_rem, e_and, e_or, e_xor, e_shl, e_shr, e_eql, e_neq, e_lss, e_leq, e_gtr, e_geq, e_beq, e_bne, e_peq1, e_peq2, e_pne1, e_pne2, e_zeq1, e_zeq2, e_zne1, e_zne2, e_feq1, e_fne1, e_feq2, e_fne2, e_seq, e_sne, e_ta1, e_ta2, Nat.zero_add, Nat.add_zero, Bool.not_true, Bool.not_false]
  refine ld1_r h.cch rfl ?_
  refine lk2_map u76 u25 (z25 w) h.mapc ?_
  try simp only [e_fd, e_nck, e_pkt, e_pkf, e_gdtt, e_gdtf, e_gdft, e_gdff, e_ift, e_iff, e_not, e_ln, e_lnT, e_cp, e_cvi, e_ex20, e_ex21, e_ex30, e_ex31, e_ex32, e_add, e_sub, e_mul, e_quo, e_rem, e_and, e_or, e_xor, e_shl, e_shr, e_eql, e_neq, e_lss, e_leq, e_gtr, e_geq, e_beq, e_bne, e_peq1, e_peq2, e_pne1, e_pne2, e_zeq1, e_zeq2, e_zne1, e_zne2, e_feq1, e_fne1, e_feq2, e_fne2, e_seq, e_sne, e_ta1, e_ta2, Nat.zero_add, Nat.add_zero, Bool.not_true, Bool.not_false]
  exact hK
theorem locate_ok {x : Int} (h : Dk w db mb cb mm cm s n c r ch sh mk tk) (hK : ∀ w' a b, Kp (fun _ => False) w w' → K (.tuple #[U64 a, I b]) w') : cl Tryf.prog 35 #[P mb 0, U64 x] K w := by
  apply c35
  unfold s35_p3 s35_p2 s35_p2_d
  have kd : Kp (fun _ => False) w (drw w) := kp_drw
  generalize drw w = w1 at kd ⊢
  have h1 := h.kp' kd
  try simp only [e_fd, e_nck, e_pkt, e_pkf, e_gdtt, e_gdtf, e_gdft, e_gdff, e_ift, e_iff, e_not, e_ln, e_lnT, e_cp, e_cvi, e_ex20, e_ex21, e_ex30, e_ex31, e_ex32, e_add, e_sub, e_mul, e_quo, e_rem, e_and, e_or, e_xor, e_shl, e_shr, e_eql, e_neq, e_lss, e_leq, e_gtr, e_geq, e_beq, e_bne, e_peq1, e_peq2, e_pne1, e_pne2, e_zeq1, e_zeq2, e_zne1, e_zne2, e_feq1, e_fne1, e_feq2, e_fne2, e_seq, e_sne, e_ta1, e_ta2, Nat.zero_add, Nat.add_zero, Bool.not_true, Bool.not_false]
  refine ld1_r h1.med rfl ?_
  try simp only [e_fd, e_nck, e_pkt, e_pkf, e_gdtt, e_gdtf, e_gdft, e_gdff, e_ift, e_iff, e_not, e_ln, e_lnT, e_cp, e_cvi, e_ex20, e_ex21, e_ex30, e_ex31, e_ex32, e_add, e_sub, e_mul, e_quo, e_rem, e_and, e_or, e_xor, e_shl, e_shr, e_eql, e_neq, e_lss, e_leq, e_gtr, e_geq, e_beq, e_bne, e_peq1, e_peq2, e_pne1, e_pne2, e_zeq1, e_zeq2, e_zne1, e_zne2, e_feq1, e_fne1, e_feq2, e_fne2, e_seq, e_sne, e_ta1, e_ta2, Nat.zero_add, Nat.add_zero, Bool.not_true, Bool.not_false]
  refine ⟨h.sh0, ?_⟩
  try simp only [e_fd, e_nck, e_pkt, e_pkf, e_gdtt, e_gdtf, e_gdft, e_gdff, e_ift, e_iff, e_not, e_ln, e_lnT, e_cp, e_cvi, e_ex20, e_ex21, e_ex30, e_ex31, e_ex32, e_add, e_sub, e_mul, e_quo, e_rem, e_and, e_or, e_xor, e_shl, e_shr, e_eql, e_neq, e_lss, e_leq, e_gtr, e_geq, e_beq, e_bne, e_peq1, e_peq2, e_pne1, e_pne2, e_zeq1, e_zeq2, e_zne1, e_zne2, e_feq1, e_fne1, e_feq2, e_fne2, e_seq, e_sne, e_ta1, e_ta2, Nat.zero_add, Nat.add_zero, Bool.not_true, Bool.not_false]
  refine ld1_r h1.med rfl ?_
  try simp only [e_fd, e_nck, e_pkt, e_pkf, e_gdtt, e_gdtf, e_gdft, e_gdff, e_ift, e_iff, e_not, e_ln, e_lnT, e_cp, e_cvi, e_ex20, e_ex21, e_ex30, e_ex31, e_ex32, e_add, e_sub, e_mul, e_quo, e_rem, e_and, e_or, e_xor, e_shl, e_shr, e_eql, e_neq, e_lss, e_leq, e_gtr, e_geq, e_beq, e_bne, e_peq1, e_peq2, e_pne1, e_pne2, e_zeq1, e_zeq2, e_zne1, e_zne2, e_feq1, e_fne1, e_feq2, e_fne2, e_seq, e_sne, e_ta1, e_ta2, Nat.zero_add, Nat.add_zero, Bool.not_true, Bool.not_false]
  refine ld1_r h1.med rfl ?_
  try simp only [e_fd, e_nck, e_pkt, e_pkf, e_gdtt, e_gdtf, e_gdft, e_gdff, e_ift, e_iff, e_not, e_ln, e_lnT, e_cp, e_cvi, e_ex20, e_ex21, e_ex30, e_ex31, e_ex32, e_add, e_sub, e_mul, e_quo, e_rem, e_and, e_or, e_xor, e_shl, e_shr, e_eql, e_neq, e_lss, e_leq, e_gtr, e_geq, e_beq, e_bne, e_peq1, e_peq2, e_pne1, e_pne2, e_zeq1, e_zeq2, e_zne1, e_zne2, e_feq1, e_fne1, e_feq2, e_fne2, e_seq, e_sne, e_ta1, e_ta2, Nat.zero_add, Nat.add_zero, Bool.not_true, Bool.not_false]
  unfold s35_p1
  exact hK w1 _ _ kd
theorem mread_ok {x : Int} (h : Dk w db mb cb mm cm s n c r ch sh mk tk) (hs : 0 < s) (hr : Row w b 5 l) (hl : l.length = s) (hK : ∀ w', Row w' b 5 (zeros s) → Kp (fun k => k = b) w w' → K (.tuple #[]) w') : cl Tryf.prog 30 #[P mb 0, U64 x, .slice (some ⟨b, 0, none⟩) s s] K w := by
  apply c30
  unfold s30_p5
  refine locate_ok h fun w1 a b' hk1 => ?_
  try simp only [e_fd, e_nck, e_pkt, e_pkf, e_gdtt, e_gdtf, e_gdft, e_gdff, e_ift, e_iff, e_not, e_ln, e_lnT, e_cp, e_cvi, e_ex20, e_ex21, e_ex30, e_ex31, e_ex32, e_add, e_sub, e_mul, e_quo, e_rem, e_and, e_or, e_xor, e_shl, e_shr, e_eql, e_neq, e_lss, e_leq, e_gtr, e_geq, e_beq, e_bne, e_peq1, e_peq2, e_pne1, e_pne2, e_zeq1, e_zeq2, e_zne1, e_zne2, e_feq1, e_fne1, e_feq2, e_fne2, e_seq, e_sne, e_ta1, e_ta2, Nat.zero_add, Nat.add_zero, Bool.not_true, Bool.not_false]
  have h1 := h.kp' hk1
  refine ld1_r h1.med rfl ?_
  refine lk_map u69 u25 (z121 w1) h1.mapm (by simp) ?_
  try simp only [e_fd, e_nck, e_pkt, e_pkf, e_gdtt, e_gdtf, e_gdft, e_gdff, e_ift, e_iff, e_not, e_ln, e_lnT, e_cp, e_cvi, e_ex20, e_ex21, e_ex30, e_ex31, e_ex32, e_add, e_sub, e_mul, e_quo, e_rem, e_and, e_or, e_xor, e_shl, e_shr, e_eql, e_neq, e_lss, e_leq, e_gtr, e_geq, e_beq, e_bne, e_peq1, e_peq2, e_pne1, e_pne2, e_zeq1, e_zeq2, e_zne1, e_zne2, e_feq1, e_fne1, e_feq2, e_fne2, e_seq, e_sne, e_ta1, e_ta2, Nat.zero_add, Nat.add_zero, Bool.not_true, Bool.not_false]
  unfold s30_p4
  try simp only [e_fd, e_nck, e_pkt, e_pkf, e_gdtt, e_gdtf, e_gdft, e_gdff, e_ift, e_iff, e_not, e_ln, e_lnT, e_cp, e_cvi, e_ex20, e_ex21, e_ex30, e_ex31, e_ex32, e_add, e_sub, e_mul, e_quo, e_rem, e_and, e_or, e_xor, e_shl, e_shr, e_eql, e_neq, e_lss, e_leq, e_gtr, e_geq, e_beq, e_bne, e_peq1, e_peq2, e_pne1, e_pne2, e_zeq1, e_zeq2, e_zne1, e_zne2, e_feq1, e_fne1, e_feq2, e_fne2, e_seq, e_sne, e_ta1, e_ta2, Nat.zero_add, Nat.add_zero, Bool.not_true, Bool.not_false]
  unfold s30_p1
  refine clear_ok (hk1.row' hr) hl hs fun w2 r2 hk2 hz2 => ?_
  exact hK w2 r2 (hk1.none.trans hk2)
end
end Go.Proofs.Qxb6500899aFmt
