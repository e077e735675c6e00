import Derived.Test.Qxb6500895aG1
import Derived.Test.Qxb6500895aShSimp
import Derived.Test.Qxb6500895aShEq
namespace Go.Proofs.Qxb6500895a
open Go.Sh Go.RowKit
set_option linter.unusedVariables false
set_option linter.unusedSimpArgs false

def okGeo (s n : Int) : Bool := decide (1 ≤ s) && decide (s ≤ 65536) && decide (1 ≤ n) && decide (n ≤ 16777216) && decide (n ≤ 1073741824 / s)

theorem valid_ok (s n : Int) {K : Value → World → Prop} {w : World} (hK : ∀ w', Kp (fun _ => False) w w' → K (.bool (okGeo s n)) w') :
    cl Try.prog 57 #[.agg #[.int .i64 s, .int .i64 n]] K w := by
  apply c57
  unfold s57_p3
  refine nw_r fun w1 h1 hb hz => ?_
  simp only [e_fd, e_nck, e_pkt, e_pkf, e_gdtt, e_gdtf, e_gdft, e_gdff, e_ift, e_iff, e_not, e_ln, e_lnT, e_cp, e_cvi, e_ex20, e_ex21, e_ex30, e_ex31, e_ex32, e_add, e_sub, e_mul, e_quo, e_rem, e_and, e_or, e_xor, e_shl, e_shr, e_eql, e_neq, e_lss, e_leq, e_gtr, e_geq, e_beq, e_bne, e_peq1, e_peq2, e_pne1, e_pne2, e_zeq1, e_zeq2, e_zne1, e_zne2, e_feq1, e_fne1, e_feq2, e_fne2, e_seq, e_sne, e_ta1, e_ta2, Nat.zero_add, Nat.add_zero, Bool.not_true, Bool.not_false]
  refine ld1_r h1 rfl ?_
  simp only [e_fd, e_nck, e_pkt, e_pkf, e_gdtt, e_gdtf, e_gdft, e_gdff, e_ift, e_iff, e_not, e_ln, e_lnT, e_cp, e_cvi, e_ex20, e_ex21, e_ex30, e_ex31, e_ex32, e_add, e_sub, e_mul, e_quo, e_rem, e_and, e_or, e_xor, e_shl, e_shr, e_eql, e_neq, e_lss, e_leq, e_gtr, e_geq, e_beq, e_bne, e_peq1, e_peq2, e_pne1, e_pne2, e_zeq1, e_zeq2, e_zne1, e_zne2, e_feq1, e_fne1, e_feq2, e_fne2, e_seq, e_sne, e_ta1, e_ta2, Nat.zero_add, Nat.add_zero, Bool.not_true, Bool.not_false]
  by_cases hs : s < 1
  · have e : okGeo s n = false := by unfold okGeo; simp; omega
    rw [e] at hK
    simp only [hs, decide_true, e_fd, e_nck, e_pkt, e_pkf, e_gdtt, e_gdtf, e_gdft, e_gdff, e_ift, e_iff, e_not, e_ln, e_lnT, e_cp, e_cvi, e_ex20, e_ex21, e_ex30, e_ex31, e_ex32, e_add, e_sub, e_mul, e_quo, e_rem, e_and, e_or, e_xor, e_shl, e_shr, e_eql, e_neq, e_lss, e_leq, e_gtr, e_geq, e_beq, e_bne, e_peq1, e_peq2, e_pne1, e_pne2, e_zeq1, e_zeq2, e_zne1, e_zne2, e_feq1, e_fne1, e_feq2, e_fne2, e_seq, e_sne, e_ta1, e_ta2, Nat.zero_add, Nat.add_zero, Bool.not_true, Bool.not_false]
    exact hK _ hb
  simp only [hs, decide_false, e_fd, e_nck, e_pkt, e_pkf, e_gdtt, e_gdtf, e_gdft, e_gdff, e_ift, e_iff, e_not, e_ln, e_lnT, e_cp, e_cvi, e_ex20, e_ex21, e_ex30, e_ex31, e_ex32, e_add, e_sub, e_mul, e_quo, e_rem, e_and, e_or, e_xor, e_shl, e_shr, e_eql, e_neq, e_lss, e_leq, e_gtr, e_geq, e_beq, e_bne, e_peq1, e_peq2, e_pne1, e_pne2, e_zeq1, e_zeq2, e_zne1, e_zne2, e_feq1, e_fne1, e_feq2, e_fne2, e_seq, e_sne, e_ta1, e_ta2, Nat.zero_add, Nat.add_zero, Bool.not_true, Bool.not_false]
  refine ld1_r h1 rfl ?_
  simp only [e_fd, e_nck, e_pkt, e_pkf, e_gdtt, e_gdtf, e_gdft, e_gdff, e_ift, e_iff, e_not, e_ln, e_lnT, e_cp, e_cvi, e_ex20, e_ex21, e_ex30, e_ex31, e_ex32, e_add, e_sub, e_mul, e_quo, e_rem, e_and, e_or, e_xor, e_shl, e_shr, e_eql, e_neq, e_lss, e_leq, e_gtr, e_geq, e_beq, e_bne, e_peq1, e_peq2, e_pne1, e_pne2, e_zeq1, e_zeq2, e_zne1, e_zne2, e_feq1, e_fne1, e_feq2, e_fne2, e_seq, e_sne, e_ta1, e_ta2, Nat.zero_add, Nat.add_zero, Bool.not_true, Bool.not_false]
  by_cases hs2 : 65536 < s
  · have e : okGeo s n = false := by unfold okGeo; simp; omega
    rw [e] at hK
    simp only [hs2, decide_true, e_fd, e_nck, e_pkt, e_pkf, e_gdtt, e_gdtf, e_gdft, e_gdff, e_ift, e_iff, e_not, e_ln, e_lnT, e_cp, e_cvi, e_ex20, e_ex21, e_ex30, e_ex31, e_ex32, e_add, e_sub, e_mul, e_quo, e_rem, e_and, e_or, e_xor, e_shl, e_shr, e_eql, e_neq, e_lss, e_leq, e_gtr, e_geq, e_beq, e_bne, e_peq1, e_peq2, e_pne1, e_pne2, e_zeq1, e_zeq2, e_zne1, e_zne2, e_feq1, e_fne1, e_feq2, e_fne2, e_seq, e_sne, e_ta1, e_ta2, Nat.zero_add, Nat.add_zero, Bool.not_true, Bool.not_false]
    exact hK _ hb
  simp only [hs2, decide_false, e_fd, e_nck, e_pkt, e_pkf, e_gdtt, e_gdtf, e_gdft, e_gdff, e_ift, e_iff, e_not, e_ln, e_lnT, e_cp, e_cvi, e_ex20, e_ex21, e_ex30, e_ex31, e_ex32, e_add, e_sub, e_mul, e_quo, e_rem, e_and, e_or, e_xor, e_shl, e_shr, e_eql, e_neq, e_lss, e_leq, e_gtr, e_geq, e_beq, e_bne, e_peq1, e_peq2, e_pne1, e_pne2, e_zeq1, e_zeq2, e_zne1, e_zne2, e_feq1, e_fne1, e_feq2, e_fne2, e_seq, e_sne, e_ta1, e_ta2, Nat.zero_add, Nat.add_zero, Bool.not_true, Bool.not_false]
  refine ld1_r h1 rfl ?_
  simp only [e_fd, e_nck, e_pkt, e_pkf, e_gdtt, e_gdtf, e_gdft, e_gdff, e_ift, e_iff, e_not, e_ln, e_lnT, e_cp, e_cvi, e_ex20, e_ex21, e_ex30, e_ex31, e_ex32, e_add, e_sub, e_mul, e_quo, e_rem, e_and, e_or, e_xor, e_shl, e_shr, e_eql, e_neq, e_lss, e_leq, e_gtr, e_geq, e_beq, e_bne, e_peq1, e_peq2, e_pne1, e_pne2, e_zeq1, e_zeq2, e_zne1, e_zne2, e_feq1, e_fne1, e_feq2, e_fne2, e_seq, e_sne, e_ta1, e_ta2, Nat.zero_add, Nat.add_zero, Bool.not_true, Bool.not_false]
  by_cases hn : n < 1
  · have e : okGeo s n = false := by unfold okGeo; simp; omega
    rw [e] at hK
    simp only [hn, decide_true, e_fd, e_nck, e_pkt, e_pkf, e_gdtt, e_gdtf, e_gdft, e_gdff, e_ift, e_iff, e_not, e_ln, e_lnT, e_cp, e_cvi, e_ex20, e_ex21, e_ex30, e_ex31, e_ex32, e_add, e_sub, e_mul, e_quo, e_rem, e_and, e_or, e_xor, e_shl, e_shr, e_eql, e_neq, e_lss, e_leq, e_gtr, e_geq, e_beq, e_bne, e_peq1, e_peq2, e_pne1, e_pne2, e_zeq1, e_zeq2, e_zne1, e_zne2, e_feq1, e_fne1, e_feq2, e_fne2, e_seq, e_sne, e_ta1, e_ta2, Nat.zero_add, Nat.add_zero, Bool.not_true, Bool.not_false]
    exact hK _ hb
  simp only [hn, decide_false, e_fd, e_nck, e_pkt, e_pkf, e_gdtt, e_gdtf, e_gdft, e_gdff, e_ift, e_iff, e_not, e_ln, e_lnT, e_cp, e_cvi, e_ex20, e_ex21, e_ex30, e_ex31, e_ex32, e_add, e_sub, e_mul, e_quo, e_rem, e_and, e_or, e_xor, e_shl, e_shr, e_eql, e_neq, e_lss, e_leq, e_gtr, e_geq, e_beq, e_bne, e_peq1, e_peq2, e_pne1, e_pne2, e_zeq1, e_zeq2, e_zne1, e_zne2, e_feq1, e_fne1, e_feq2, e_fne2, e_seq, e_sne, e_ta1, e_ta2, Nat.zero_add, Nat.add_zero, Bool.not_true, Bool.not_false]
  refine ld1_r h1 rfl ?_
  simp only [e_fd, e_nck, e_pkt, e_pkf, e_gdtt, e_gdtf, e_gdft, e_gdff, e_ift, e_iff, e_not, e_ln, e_lnT, e_cp, e_cvi, e_ex20, e_ex21, e_ex30, e_ex31, e_ex32, e_add, e_sub, e_mul, e_quo, e_rem, e_and, e_or, e_xor, e_shl, e_shr, e_eql, e_neq, e_lss, e_leq, e_gtr, e_geq, e_beq, e_bne, e_peq1, e_peq2, e_pne1, e_pne2, e_zeq1, e_zeq2, e_zne1, e_zne2, e_feq1, e_fne1, e_feq2, e_fne2, e_seq, e_sne, e_ta1, e_ta2, Nat.zero_add, Nat.add_zero, Bool.not_true, Bool.not_false]
  by_cases hn2 : 16777216 < n
  · have e : okGeo s n = false := by unfold okGeo; simp; omega
    rw [e] at hK
    simp only [hn2, decide_true, e_fd, e_nck, e_pkt, e_pkf, e_gdtt, e_gdtf, e_gdft, e_gdff, e_ift, e_iff, e_not, e_ln, e_lnT, e_cp, e_cvi, e_ex20, e_ex21, e_ex30, e_ex31, e_ex32, e_add, e_sub, e_mul, e_quo, e_rem, e_and, e_or, e_xor, e_shl, e_shr, e_eql, e_neq, e_lss, e_leq, e_gtr, e_geq, e_beq, e_bne, e_peq1, e_peq2, e_pne1, e_pne2, e_zeq1, e_zeq2, e_zne1, e_zne2, e_feq1, e_fne1, e_feq2, e_fne2, e_seq, e_sne, e_ta1, e_ta2, Nat.zero_add, Nat.add_zero, Bool.not_true, Bool.not_false]
    exact hK _ hb
  simp only [hn2, decide_false, e_fd, e_nck, e_pkt, e_pkf, e_gdtt, e_gdtf, e_gdft, e_gdff, e_ift, e_iff, e_not, e_ln, e_lnT, e_cp, e_cvi, e_ex20, e_ex21, e_ex30, e_ex31, e_ex32, e_add, e_sub, e_mul, e_quo, e_rem, e_and, e_or, e_xor, e_shl, e_shr, e_eql, e_neq, e_lss, e_leq, e_gtr, e_geq, e_beq, e_bne, e_peq1, e_peq2, e_pne1, e_pne2, e_zeq1, e_zeq2, e_zne1, e_zne2, e_feq1, e_fne1, e_feq2, e_fne2, e_seq, e_sne, e_ta1, e_ta2, Nat.zero_add, Nat.add_zero, Bool.not_true, Bool.not_false]
  unfold s57_p2 s57_p2_d
  simp only [e_fd, e_nck, e_pkt, e_pkf, e_gdtt, e_gdtf, e_gdft, e_gdff, e_ift, e_iff, e_not, e_ln, e_lnT, e_cp, e_cvi, e_ex20, e_ex21, e_ex30, e_ex31, e_ex32, e_add, e_sub, e_mul, e_quo, e_rem, e_and, e_or, e_xor, e_shl, e_shr, e_eql, e_neq, e_lss, e_leq, e_gtr, e_geq, e_beq, e_bne, e_peq1, e_peq2, e_pne1, e_pne2, e_zeq1, e_zeq2, e_zne1, e_zne2, e_feq1, e_fne1, e_feq2, e_fne2, e_seq, e_sne, e_ta1, e_ta2, Nat.zero_add, Nat.add_zero, Bool.not_true, Bool.not_false]
  refine ld1_r h1.drw rfl ?_
  refine ld1_r h1.drw rfl ?_
  simp only [e_fd, e_nck, e_pkt, e_pkf, e_gdtt, e_gdtf, e_gdft, e_gdff, e_ift, e_iff, e_not, e_ln, e_lnT, e_cp, e_cvi, e_ex20, e_ex21, e_ex30, e_ex31, e_ex32, e_add, e_sub, e_mul, e_quo, e_rem, e_and, e_or, e_xor, e_shl, e_shr, e_eql, e_neq, e_lss, e_leq, e_gtr, e_geq, e_beq, e_bne, e_peq1, e_peq2, e_pne1, e_pne2, e_zeq1, e_zeq2, e_zne1, e_zne2, e_feq1, e_fne1, e_feq2, e_fne2, e_seq, e_sne, e_ta1, e_ta2, Nat.zero_add, Nat.add_zero, Bool.not_true, Bool.not_false]
  refine ⟨by omega, ?_⟩
  unfold s57_p1
  have e : okGeo s n = decide (n ≤ IntKind.i64.wrap (Int.tdiv 1073741824 s)) := by
    have h0 : 0 ≤ (1073741824 : Int) / s := Int.ediv_nonneg (by omega) (by omega)
    have h1 : (1073741824 : Int) / s ≤ 1073741824 := Int.ediv_le_self _ (by omega)
    rw [Int.tdiv_eq_ediv_of_nonneg (by omega), wrap64_id (by omega) (by omega)]
    unfold okGeo; simp; omega
  rw [e] at hK
  exact hK _ hb.drw

theorem bytes_ok (s n : Int) {K : Value → World → Prop} {w : World} (hK : ∀ w', Kp (fun _ => False) w w' → K (.int .i64 (IntKind.i64.wrap (s * n))) w') :
    cl Try.prog 58 #[.agg #[.int .i64 s, .int .i64 n]] K w := by
  apply c58
  unfold s58_p1
  refine nw_r fun w1 h1 hb hz => ?_
  simp only [e_fd, e_nck, e_pkt, e_pkf, e_gdtt, e_gdtf, e_gdft, e_gdff, e_ift, e_iff, e_not, e_ln, e_lnT, e_cp, e_cvi, e_ex20, e_ex21, e_ex30, e_ex31, e_ex32, e_add, e_sub, e_mul, e_quo, e_rem, e_and, e_or, e_xor, e_shl, e_shr, e_eql, e_neq, e_lss, e_leq, e_gtr, e_geq, e_beq, e_bne, e_peq1, e_peq2, e_pne1, e_pne2, e_zeq1, e_zeq2, e_zne1, e_zne2, e_feq1, e_fne1, e_feq2, e_fne2, e_seq, e_sne, e_ta1, e_ta2, Nat.zero_add, Nat.add_zero, Bool.not_true, Bool.not_false]
  refine ld1_r h1 rfl ?_
  refine ld1_r h1 rfl ?_
  simp only [e_fd, e_nck, e_pkt, e_pkf, e_gdtt, e_gdtf, e_gdft, e_gdff, e_ift, e_iff, e_not, e_ln, e_lnT, e_cp, e_cvi, e_ex20, e_ex21, e_ex30, e_ex31, e_ex32, e_add, e_sub, e_mul, e_quo, e_rem, e_and, e_or, e_xor, e_shl, e_shr, e_eql, e_neq, e_lss, e_leq, e_gtr, e_geq, e_beq, e_bne, e_peq1, e_peq2, e_pne1, e_pne2, e_zeq1, e_zeq2, e_zne1, e_zne2, e_feq1, e_fne1, e_feq2, e_fne2, e_seq, e_sne, e_ta1, e_ta2, Nat.zero_add, Nat.add_zero, Bool.not_true, Bool.not_false]
  exact hK _ hb

theorem newCache_ok (s : Int) (n : Nat) (hn : n ≤ 16777216) {K : Value → World → Prop} {w : World}
    (hK : ∀ w' b, w.heap.size ≤ b → Row w' b 21 (List.replicate n (.int .i32 0)) → Kp (fun _ => False) w w' →
      K (.agg #[.int .i64 s, .slice (some ⟨b, 0, none⟩) n n, .slice none 0 0, .slice none 0 0]) w') :
    cl Try.prog 59 #[.agg #[.int .i64 s, .int .i64 n]] K w := by
  apply c59
  unfold s59_p3
  refine nw_r fun w1 h1 hb1 hz1 => ?_
  refine nw_r fun w2 h2 hb2 hz2 => ?_
  have h1' := hb2.row' h1
  unfold s59_p2 s59_p2_d
  simp only [e_fd, e_nck, e_pkt, e_pkf, e_gdtt, e_gdtf, e_gdft, e_gdff, e_ift, e_iff, e_not, e_ln, e_lnT, e_cp, e_cvi, e_ex20, e_ex21, e_ex30, e_ex31, e_ex32, e_add, e_sub, e_mul, e_quo, e_rem, e_and, e_or, e_xor, e_shl, e_shr, e_eql, e_neq, e_lss, e_leq, e_gtr, e_geq, e_beq, e_bne, e_peq1, e_peq2, e_pne1, e_pne2, e_zeq1, e_zeq2, e_zne1, e_zne2, e_feq1, e_fne1, e_feq2, e_fne2, e_seq, e_sne, e_ta1, e_ta2, Nat.zero_add, Nat.add_zero, Bool.not_true, Bool.not_false]
  refine ld1_r h1'.drw rfl ?_
  refine ld1_r h1'.drw rfl ?_
  refine mks_r (by omega) (by omega) fun w3 h3 hb3 hz3 => ⟨hb3.below', ?_⟩
  refine bdq_r (l := [.int .i64 s, .slice (some ⟨w2.heap.size, 0, none⟩) n n, .slice none 0 0, .slice none 0 0]) rfl ?_
  have h2' := hb3.undrw.row' h2
  refine stn_r h2' rfl (by simp) rfl fun w4 h4 hb4 hz4 => ?_
  unfold s59_p1
  refine ldn_r h4 (by simp) ?_
  refine hK w4 w2.heap.size (by omega) (hb4.row h3 (by intro (e : w2.heap.size = _); omega)) ?_
  exact ((hb1.trans hb2).trans hb3.undrw).then hb4 (by intro k hk (e : k = _); omega)

/-- a new device, as New leaves it -/
structure NewDisk (w : World) (s n : Nat) (d pb ib : Nat) : Prop where
  disk : Row w d 91 [.int .i64 s, .int .i64 n, .slice (some ⟨pb, 0, none⟩) (s * n) (s * n), .int .i64 s, .slice (some ⟨ib, 0, none⟩) n n, .slice none 0 0, .slice none 0 0, .bool false,
    .int .i64 0, .slice none 0 0, .int .i64 0, .int .i64 0, .int .i64 0, .int .i64 0, .int .i64 0, .int .i64 0, .int .i64 0]
  plat : Row w pb 5 (List.replicate (s * n) (.int .u8 0))
  idx : Row w ib 21 (List.replicate n (.int .i32 0))
  ne1 : d ≠ pb
  ne2 : d ≠ ib
  ne3 : pb ≠ ib

theorem new_good (s n : Nat) (hg : okGeo s n = true) {K : Value → World → Prop} {w : World}
    (hK : ∀ w' d pb ib, w.heap.size ≤ d → w.heap.size ≤ pb → w.heap.size ≤ ib → NewDisk w' s n d pb ib → Kp (fun _ => False) w w' →
      K (.tuple #[.pointer (some ⟨d, 0, none⟩), .nilIface]) w') :
    cl Try.prog 34 #[.agg #[.int .i64 s, .int .i64 n]] K w := by
  have hg' := hg
  unfold okGeo at hg'
  simp only [Bool.and_eq_true, decide_eq_true_eq] at hg'
  obtain ⟨⟨⟨⟨g1, g2⟩, g3⟩, g4⟩, g5⟩ := hg'
  have hsn : s * n ≤ 1073741824 := by
    have := Int.mul_le_of_le_ediv (by omega : (0 : Int) < s) g5
    have e : ((n * s : Nat) : Int) = (n : Int) * s := by simp
    have : ((n * s : Nat) : Int) ≤ 1073741824 := by rw [e]; exact this
    rw [Nat.mul_comm]; omega
  have ew : IntKind.i64.wrap ((s : Int) * (n : Int)) = ((s * n : Nat) : Int) := by
    have e : ((s * n : Nat) : Int) = (s : Int) * n := by simp
    rw [← e]; exact wrap64_id (by omega) (by omega)
  apply c34
  unfold s34_p3
  refine nw_r fun w1 h1 hb1 hz1 => ?_
  refine ldn_r h1 (Nat.le_of_ble_eq_true rfl) ?_
  refine valid_ok s n fun w2 hb2 => ?_
  simp only [hg, e_fd, e_nck, e_pkt, e_pkf, e_gdtt, e_gdtf, e_gdft, e_gdff, e_ift, e_iff, e_not, e_ln, e_lnT, e_cp, e_cvi, e_ex20, e_ex21, e_ex30, e_ex31, e_ex32, e_add, e_sub, e_mul, e_quo, e_rem, e_and, e_or, e_xor, e_shl, e_shr, e_eql, e_neq, e_lss, e_leq, e_gtr, e_geq, e_beq, e_bne, e_peq1, e_peq2, e_pne1, e_pne2, e_zeq1, e_zeq2, e_zne1, e_zne2, e_feq1, e_fne1, e_feq2, e_fne2, e_seq, e_sne, e_ta1, e_ta2, Nat.zero_add, Nat.add_zero, Bool.not_true, Bool.not_false]
  have h2 := (hb2.row' h1).drw
  unfold s34_p2 s34_p2_d
  refine ldn_r h2 (Nat.le_of_ble_eq_true rfl) ?_
  refine ldn_r h2 (Nat.le_of_ble_eq_true rfl) ?_
  refine ldn_r h2 (Nat.le_of_ble_eq_true rfl) ?_
  refine bytes_ok s n fun w3 hb3 => ⟨hb3.below', ?_⟩
  rw [ew]
  have hb03 : Kp (fun _ => False) w w3 := (hb1.trans hb2).trans hb3.undrw
  have hz3 := hb3.size
  have hz2 := hb2.size
  simp only [drw_heap] at hz3
  constructor
  · refine mks_r (by omega) (by omega) fun w4 h4 hb4 hz4 => ⟨(hb3.trans hb4).below', ?_⟩
    refine newCache_ok s n (by omega) fun w5 ib hib h5 hb5 => ⟨((hb3.trans hb4).trans hb5).below', ?_⟩
    refine bdq_r rfl ?_
    refine nw_r fun w6 h6 hb6 hz6 => ?_
    have hz5 := hb5.size
    unfold s34_p1
    refine hK w6 w5.heap.size w3.heap.size ib (by omega) (by omega) (by omega) ⟨h6, hb6.row' (hb5.row' h4), hb6.row' h5, by omega, ?_, by omega⟩ (((hb03.trans hb4).trans hb5).trans hb6)
    have := h5.lt
    omega
  · refine newCache_ok s n (by omega) fun w5 ib hib h5 hb5 => ⟨(hb3.trans hb5).below', ?_⟩
    refine mks_r (by omega) (by omega) fun w4 h4 hb4 hz4 => ⟨((hb3.trans hb5).trans hb4).below', ?_⟩
    refine bdq_r rfl ?_
    refine nw_r fun w6 h6 hb6 hz6 => ?_
    have hz5 := hb5.size
    have := h5.lt
    unfold s34_p1
    exact hK w6 w4.heap.size w5.heap.size ib (by omega) (by omega) (by omega) ⟨h6, hb6.row' h4, hb6.row' (hb4.row' h5), by omega, by omega, by omega⟩ (((hb03.trans hb5).trans hb4).trans hb6)

theorem new_bad (s n : Int) (hg : okGeo s n = false) {K : Value → World → Prop} {w : World}
    (hK : ∀ w' b, w.heap.size ≤ b → Row w' b 96 [.int .i64 6, .string ⟨#[78, 101, 119]⟩, .int .i64 0, .int .i64 0] → Kp (fun _ => False) w w' →
      K (.tuple #[.pointer none, .iface 94 (.pointer (some ⟨b, 0, none⟩))]) w') :
    cl Try.prog 34 #[.agg #[.int .i64 s, .int .i64 n]] K w := by
  apply c34
  unfold s34_p3
  refine nw_r fun w1 h1 hb1 hz1 => ?_
  refine ldn_r h1 (Nat.le_of_ble_eq_true rfl) ?_
  refine valid_ok s n fun w2 hb2 => ?_
  simp only [hg, e_fd, e_nck, e_pkt, e_pkf, e_gdtt, e_gdtf, e_gdft, e_gdff, e_ift, e_iff, e_not, e_ln, e_lnT, e_cp, e_cvi, e_ex20, e_ex21, e_ex30, e_ex31, e_ex32, e_add, e_sub, e_mul, e_quo, e_rem, e_and, e_or, e_xor, e_shl, e_shr, e_eql, e_neq, e_lss, e_leq, e_gtr, e_geq, e_beq, e_bne, e_peq1, e_peq2, e_pne1, e_pne2, e_zeq1, e_zeq2, e_zne1, e_zne2, e_feq1, e_fne1, e_feq2, e_fne2, e_seq, e_sne, e_ta1, e_ta2, Nat.zero_add, Nat.add_zero, Bool.not_true, Bool.not_false]
  refine bdq_r rfl ?_
  refine nw_r fun w3 h3 hb3 hz3 => ?_
  have hz2 := hb2.size
  exact hK w3 w2.heap.size (by omega) h3 ((hb1.trans hb2).trans hb3)

theorem codeOf_nil {K : Value → World → Prop} {w : World} (hK : K (.int .i64 0) w) : cl Try.prog 31 #[.nilIface] K w := by
  apply c31
  unfold s31_p1
  simp only [e_fd, e_nck, e_pkt, e_pkf, e_gdtt, e_gdtf, e_gdft, e_gdff, e_ift, e_iff, e_not, e_ln, e_lnT, e_cp, e_cvi, e_ex20, e_ex21, e_ex30, e_ex31, e_ex32, e_add, e_sub, e_mul, e_quo, e_rem, e_and, e_or, e_xor, e_shl, e_shr, e_eql, e_neq, e_lss, e_leq, e_gtr, e_geq, e_beq, e_bne, e_peq1, e_peq2, e_pne1, e_pne2, e_zeq1, e_zeq2, e_zne1, e_zne2, e_feq1, e_fne1, e_feq2, e_fne2, e_seq, e_sne, e_ta1, e_ta2, Nat.zero_add, Nat.add_zero, Bool.not_true, Bool.not_false]
  exact hK
theorem codeOf_err {b : Nat} {t : TypeId} {c : Int} {r : List Value} {K : Value → World → Prop} {w : World} (h : Row w b t (.int .i64 c :: r)) (hK : K (.int .i64 c) w) :
    cl Try.prog 31 #[.iface 94 (.pointer (some ⟨b, 0, none⟩))] K w := by
  apply c31
  unfold s31_p1
  simp only [e_fd, e_nck, e_pkt, e_pkf, e_gdtt, e_gdtf, e_gdft, e_gdff, e_ift, e_iff, e_not, e_ln, e_lnT, e_cp, e_cvi, e_ex20, e_ex21, e_ex30, e_ex31, e_ex32, e_add, e_sub, e_mul, e_quo, e_rem, e_and, e_or, e_xor, e_shl, e_shr, e_eql, e_neq, e_lss, e_leq, e_gtr, e_geq, e_beq, e_bne, e_peq1, e_peq2, e_pne1, e_pne2, e_zeq1, e_zeq2, e_zne1, e_zne2, e_feq1, e_fne1, e_feq2, e_fne2, e_seq, e_sne, e_ta1, e_ta2, Nat.zero_add, Nat.add_zero, Bool.not_true, Bool.not_false]
  exact ld1_r h rfl hK

theorem geometry_ok {d : Nat} {t : TypeId} {s n : Int} {r : List Value} {K : Value → World → Prop} {w : World} (h : Row w d t (.int .i64 s :: .int .i64 n :: r))
    (hK : ∀ w', Kp (fun _ => False) w w' → K (.agg #[.int .i64 s, .int .i64 n]) w') : cl Try.prog 35 #[.pointer (some ⟨d, 0, none⟩)] K w := by
  apply c35
  unfold s35_p1
  refine nw_r fun w1 h1 hb1 hz1 => ?_
  simp only [e_fd, e_nck, e_pkt, e_pkf, e_gdtt, e_gdtf, e_gdft, e_gdff, e_ift, e_iff, e_not, e_ln, e_lnT, e_cp, e_cvi, e_ex20, e_ex21, e_ex30, e_ex31, e_ex32, e_add, e_sub, e_mul, e_quo, e_rem, e_and, e_or, e_xor, e_shl, e_shr, e_eql, e_neq, e_lss, e_leq, e_gtr, e_geq, e_beq, e_bne, e_peq1, e_peq2, e_pne1, e_pne2, e_zeq1, e_zeq2, e_zne1, e_zne2, e_feq1, e_fne1, e_feq2, e_fne2, e_seq, e_sne, e_ta1, e_ta2, Nat.zero_add, Nat.add_zero, Bool.not_true, Bool.not_false]
  refine ldn_r (hb1.row' h) (by simp) ?_
  refine stn_r h1 rfl (by simp) rfl fun w2 h2 hb2 hz2 => ?_
  refine ldn_r h2 (by simp) ?_
  exact hK w2 (hb1.then hb2 (by intro k hk (e : k = _); omega))

set_option maxRecDepth 100000 in
theorem neq65 {x y : Operand} {a b c d : Int} {K : Value → World → Prop} {w : World} (hK : K (.bool (!((a == c) && ((b == d) && true)))) w) :
    bor Try.prog .neq 65 x y (.agg #[.int .i64 a, .int .i64 b]) (.agg #[.int .i64 c, .int .i64 d]) K w :=
  bor_neq_flat (P := Try.prog) (t := 65) (x := x) (y := y) (K := K) (w := w) (xs := [.int .i64 a, .int .i64 b]) (ys := [.int .i64 c, .int .i64 d]) (ps := [(.i64, a, c), (.i64, b, d)]) (by kernel_rfl) (by kernel_rfl) (by kernel_rfl) (by kernel_rfl) hK

/-! ### the law -/
def geoCells (gs : List (Int × Int)) : List Value := (gs.map fun g => [Value.int .i64 g.1, .int .i64 g.2]).flatten

theorem geoCells_length (gs : List (Int × Int)) : (geoCells gs).length = 2 * gs.length := by
  induction gs with
  | nil => rfl
  | cons g gs ih => simp only [geoCells, List.map_cons, List.flatten_cons, List.length_append, List.length_cons, List.length_nil] at *; omega
theorem geoCells_at (gs : List (Int × Int)) (i : Nat) (h : i < gs.length) : ((geoCells gs).drop (i * 2)).take 2 = [.int .i64 (gs[i]).1, .int .i64 (gs[i]).2] := by
  induction gs generalizing i with
  | nil => simp at h
  | cons g gs ih =>
    cases i with
    | zero => simp [geoCells]
    | succ i =>
      have : geoCells (g :: gs) = .int .i64 g.1 :: .int .i64 g.2 :: geoCells gs := rfl
      rw [this, show (i + 1) * 2 = i * 2 + 1 + 1 by omega, List.drop_succ_cons, List.drop_succ_cons]
      have := ih i (by simpa using h)
      simpa using this

def badG : List (Int × Int) := [(0, 1), (1, 0), (-1, 4), (4, -1), (65537, 1), (1, 16777217), (65536, 16385)]
def goodG : List (Nat × Nat) := [(1, 1), (512, 64), (3, 7)]
theorem bad_bad : ∀ i (h : i < badG.length), okGeo (badG[i]).1 (badG[i]).2 = false := by decide
theorem good_good : ∀ i (h : i < goodG.length), okGeo (goodG[i]).1 (goodG[i]).2 = true := by decide

set_option maxRecDepth 100000 in
theorem good_loop {K : Value → World → Prop} {w : World} {b : Nat} (W : World) (h : Row w b 65 (geoCells (goodG.map fun g => ((g.1 : Int), (g.2 : Int))))) (hw : Kp (fun _ => False) W w)
    (hK : ∀ w', Kp (fun _ => False) W w' → K (.bool true) w') :
    LoopL (s10_p7_F K) [.slice (some ⟨b, 0, none⟩) 3 3, .int .i64 3, .int .i64 0] w := by
  refine ⟨fun n l w => ∃ i : Nat, l = [.slice (some ⟨b, 0, none⟩) 3 3, .int .i64 3, .int .i64 i] ∧ i ≤ 3 ∧ n = 3 - i ∧ Row w b 65 (geoCells (goodG.map fun g => ((g.1 : Int), (g.2 : Int)))) ∧ Kp (fun _ => False) W w,
    3, ⟨0, rfl, by omega, by omega, h, hw⟩, ?_⟩
  rintro n l w ⟨i, rfl, hi, rfl, h, hw⟩
  rw [s10_p7_Fe]
  unfold s10_p6
  simp only [e_fd, e_nck, e_pkt, e_pkf, e_gdtt, e_gdtf, e_gdft, e_gdff, e_ift, e_iff, e_not, e_ln, e_lnT, e_cp, e_cvi, e_ex20, e_ex21, e_ex30, e_ex31, e_ex32, e_add, e_sub, e_mul, e_quo, e_rem, e_and, e_or, e_xor, e_shl, e_shr, e_eql, e_neq, e_lss, e_leq, e_gtr, e_geq, e_beq, e_bne, e_peq1, e_peq2, e_pne1, e_pne2, e_zeq1, e_zeq2, e_zne1, e_zne2, e_feq1, e_fne1, e_feq2, e_fne2, e_seq, e_sne, e_ta1, e_ta2, Nat.zero_add, Nat.add_zero, Bool.not_true, Bool.not_false]
  by_cases hlt : i < 3
  · have hlt' : ((i : Int) < 3) := by omega
    simp only [hlt', decide_true, e_fd, e_nck, e_pkt, e_pkf, e_gdtt, e_gdtf, e_gdft, e_gdff, e_ift, e_iff, e_not, e_ln, e_lnT, e_cp, e_cvi, e_ex20, e_ex21, e_ex30, e_ex31, e_ex32, e_add, e_sub, e_mul, e_quo, e_rem, e_and, e_or, e_xor, e_shl, e_shr, e_eql, e_neq, e_lss, e_leq, e_gtr, e_geq, e_beq, e_bne, e_peq1, e_peq2, e_pne1, e_pne2, e_zeq1, e_zeq2, e_zne1, e_zne2, e_feq1, e_fne1, e_feq2, e_fne2, e_seq, e_sne, e_ta1, e_ta2, Nat.zero_add, Nat.add_zero, Bool.not_true, Bool.not_false]
    unfold s10_p5
    refine ⟨⟨by omega, by omega⟩, ?_⟩
    have hi' : i < (goodG.map fun g => ((g.1 : Int), (g.2 : Int))).length := by simp [goodG]; omega
    have hat := geoCells_at _ i hi'
    obtain ⟨s, n, hsn⟩ : ∃ s n, goodG[i]? = some (s, n) := ⟨(goodG[i]'(by simp [goodG]; omega)).1, (goodG[i]'(by simp [goodG]; omega)).2, by rw [List.getElem?_eq_getElem]⟩
    have hg : okGeo s n = true := by
      have := good_good i (by simp [goodG]; omega)
      rw [List.getElem?_eq_getElem (by simp [goodG]; omega)] at hsn
      simp only [Option.some.injEq] at hsn
      rw [hsn] at this; exact this
    have hat' : ((geoCells (goodG.map fun g => ((g.1 : Int), (g.2 : Int)))).drop (i * 2)).take 2 = [.int .i64 s, .int .i64 n] := by
      rw [hat]
      rw [List.getElem?_eq_getElem (by simp [goodG]; omega)] at hsn
      simp only [Option.some.injEq] at hsn
      simp [hsn]
    rw [add_mk, show (0 + (i : Int).toNat * 2) = i * 2 by omega]
    refine ldn_r h (by rw [geoCells_length]; simp [goodG]; omega) ?_
    rw [hat']
    refine nw_r fun w1 h1 hb1 hz1 => ?_
    refine stn_r h1 rfl (by simp) rfl fun w2 (h2 : Row w2 _ 65 [.int .i64 s, .int .i64 n]) hb2 hz2 => ?_
    refine ldn_r h2 (by simp) ?_
    show cl Try.prog 34 #[.agg #[.int .i64 s, .int .i64 n]] _ _
    refine new_good s n hg fun w3 d pb ib hd hpb hib hnew hb3 => ?_
    simp only [e_fd, e_nck, e_pkt, e_pkf, e_gdtt, e_gdtf, e_gdft, e_gdff, e_ift, e_iff, e_not, e_ln, e_lnT, e_cp, e_cvi, e_ex20, e_ex21, e_ex30, e_ex31, e_ex32, e_add, e_sub, e_mul, e_quo, e_rem, e_and, e_or, e_xor, e_shl, e_shr, e_eql, e_neq, e_lss, e_leq, e_gtr, e_geq, e_beq, e_bne, e_peq1, e_peq2, e_pne1, e_pne2, e_zeq1, e_zeq2, e_zne1, e_zne2, e_feq1, e_fne1, e_feq2, e_fne2, e_seq, e_sne, e_ta1, e_ta2, Nat.zero_add, Nat.add_zero, Bool.not_true, Bool.not_false]
    unfold s10_p4 s10_p4_d
    simp only [e_fd, e_nck, e_pkt, e_pkf, e_gdtt, e_gdtf, e_gdft, e_gdff, e_ift, e_iff, e_not, e_ln, e_lnT, e_cp, e_cvi, e_ex20, e_ex21, e_ex30, e_ex31, e_ex32, e_add, e_sub, e_mul, e_quo, e_rem, e_and, e_or, e_xor, e_shl, e_shr, e_eql, e_neq, e_lss, e_leq, e_gtr, e_geq, e_beq, e_bne, e_peq1, e_peq2, e_pne1, e_pne2, e_zeq1, e_zeq2, e_zne1, e_zne2, e_feq1, e_fne1, e_feq2, e_fne2, e_seq, e_sne, e_ta1, e_ta2, Nat.zero_add, Nat.add_zero, Bool.not_true, Bool.not_false]
    have h23 := hb3.row' h2
    refine ldn_r h23.drw (by simp) ?_
    refine geometry_ok hnew.disk.drw fun w4 hb4 => ⟨hb4.below', ?_⟩
    show bor Try.prog .neq 65 _ _ (.agg #[.int .i64 s, .int .i64 n]) (.agg #[.int .i64 s, .int .i64 n]) _ _
    refine neq65 ?_
    simp only [beq_self_eq_true, Bool.and_true, Bool.not_true, e_fd, e_nck, e_pkt, e_pkf, e_gdtt, e_gdtf, e_gdft, e_gdff, e_ift, e_iff, e_not, e_ln, e_lnT, e_cp, e_cvi, e_ex20, e_ex21, e_ex30, e_ex31, e_ex32, e_add, e_sub, e_mul, e_quo, e_rem, e_and, e_or, e_xor, e_shl, e_shr, e_eql, e_neq, e_lss, e_leq, e_gtr, e_geq, e_beq, e_bne, e_peq1, e_peq2, e_pne1, e_pne2, e_zeq1, e_zeq2, e_zne1, e_zne2, e_feq1, e_fne1, e_feq2, e_fne2, e_seq, e_sne, e_ta1, e_ta2, Nat.zero_add, Nat.add_zero, Bool.not_true, Bool.not_false]
    unfold s10_p3 s10_p2
    simp only [e_fd, e_nck, e_pkt, e_pkf, e_gdtt, e_gdtf, e_gdft, e_gdff, e_ift, e_iff, e_not, e_ln, e_lnT, e_cp, e_cvi, e_ex20, e_ex21, e_ex30, e_ex31, e_ex32, e_add, e_sub, e_mul, e_quo, e_rem, e_and, e_or, e_xor, e_shl, e_shr, e_eql, e_neq, e_lss, e_leq, e_gtr, e_geq, e_beq, e_bne, e_peq1, e_peq2, e_pne1, e_pne2, e_zeq1, e_zeq2, e_zne1, e_zne2, e_feq1, e_fne1, e_feq2, e_fne2, e_seq, e_sne, e_ta1, e_ta2, Nat.zero_add, Nat.add_zero, Bool.not_true, Bool.not_false]
    refine ⟨3 - (i + 1), by omega, i + 1, ?_, by omega, rfl, ?_, ?_⟩
    · rw [wrap64_id (by omega) (by omega)]
      rfl
    · have hbw := h.lt
      refine hb4.undrw.row' (hb3.row' (hb2.row (hb1.row' h) ?_))
      intro (e : b = _); omega
    · have := hb3.size
      exact ((((hw.trans hb1).then hb2 (by intro k hk (e : k = _); have := hw.size; omega)).trans hb3).trans hb4.undrw)
  · have hlt' : ¬ ((i : Int) < 3) := by omega
    simp only [hlt', decide_false, e_fd, e_nck, e_pkt, e_pkf, e_gdtt, e_gdtf, e_gdft, e_gdff, e_ift, e_iff, e_not, e_ln, e_lnT, e_cp, e_cvi, e_ex20, e_ex21, e_ex30, e_ex31, e_ex32, e_add, e_sub, e_mul, e_quo, e_rem, e_and, e_or, e_xor, e_shl, e_shr, e_eql, e_neq, e_lss, e_leq, e_gtr, e_geq, e_beq, e_bne, e_peq1, e_peq2, e_pne1, e_pne2, e_zeq1, e_zeq2, e_zne1, e_zne2, e_feq1, e_fne1, e_feq2, e_fne2, e_seq, e_sne, e_ta1, e_ta2, Nat.zero_add, Nat.add_zero, Bool.not_true, Bool.not_false]
    unfold s10_p1
    exact hK w hw

set_option maxRecDepth 100000 in
theorem bad_loop {K : Value → World → Prop} {w : World} {b : Nat} (W : World) (h : Row w b 65 (geoCells badG)) (hw : Kp (fun _ => False) W w)
    (hK : ∀ w', Kp (fun _ => False) W w' → s10_p8 K w') :
    LoopL (s10_p10_F K) [.slice (some ⟨b, 0, none⟩) 7 7, .int .i64 7, .int .i64 0] w := by
  refine ⟨fun n l w => ∃ i : Nat, l = [.slice (some ⟨b, 0, none⟩) 7 7, .int .i64 7, .int .i64 i] ∧ i ≤ 7 ∧ n = 7 - i ∧ Row w b 65 (geoCells badG) ∧ Kp (fun _ => False) W w,
    7, ⟨0, rfl, by omega, by omega, h, hw⟩, ?_⟩
  rintro n l w ⟨i, rfl, hi, rfl, h, hw⟩
  rw [s10_p10_Fe]
  unfold s10_p9
  simp only [e_fd, e_nck, e_pkt, e_pkf, e_gdtt, e_gdtf, e_gdft, e_gdff, e_ift, e_iff, e_not, e_ln, e_lnT, e_cp, e_cvi, e_ex20, e_ex21, e_ex30, e_ex31, e_ex32, e_add, e_sub, e_mul, e_quo, e_rem, e_and, e_or, e_xor, e_shl, e_shr, e_eql, e_neq, e_lss, e_leq, e_gtr, e_geq, e_beq, e_bne, e_peq1, e_peq2, e_pne1, e_pne2, e_zeq1, e_zeq2, e_zne1, e_zne2, e_feq1, e_fne1, e_feq2, e_fne2, e_seq, e_sne, e_ta1, e_ta2, Nat.zero_add, Nat.add_zero, Bool.not_true, Bool.not_false]
  by_cases hlt : i < 7
  · have hlt' : ((i : Int) < 7) := by omega
    simp only [hlt', decide_true, e_fd, e_nck, e_pkt, e_pkf, e_gdtt, e_gdtf, e_gdft, e_gdff, e_ift, e_iff, e_not, e_ln, e_lnT, e_cp, e_cvi, e_ex20, e_ex21, e_ex30, e_ex31, e_ex32, e_add, e_sub, e_mul, e_quo, e_rem, e_and, e_or, e_xor, e_shl, e_shr, e_eql, e_neq, e_lss, e_leq, e_gtr, e_geq, e_beq, e_bne, e_peq1, e_peq2, e_pne1, e_pne2, e_zeq1, e_zeq2, e_zne1, e_zne2, e_feq1, e_fne1, e_feq2, e_fne2, e_seq, e_sne, e_ta1, e_ta2, Nat.zero_add, Nat.add_zero, Bool.not_true, Bool.not_false]
    refine ⟨⟨by omega, by omega⟩, ?_⟩
    have hat := geoCells_at badG i (by simp [badG]; omega)
    have hg := bad_bad i (by simp [badG]; omega)
    generalize (badG[i]'(by simp [badG]; omega)) = g at hat hg
    obtain ⟨s, n⟩ := g
    rw [add_mk, show (0 + (i : Int).toNat * 2) = i * 2 by omega]
    refine ldn_r h (by rw [geoCells_length]; simp [badG]; omega) ?_
    rw [hat]
    refine nw_r fun w1 h1 hb1 hz1 => ?_
    refine stn_r h1 rfl (by simp) rfl fun w2 (h2 : Row w2 _ 65 [.int .i64 s, .int .i64 n]) hb2 hz2 => ?_
    refine ldn_r h2 (by simp) ?_
    show cl Try.prog 34 #[.agg #[.int .i64 s, .int .i64 n]] _ _
    refine new_bad s n hg fun w3 eb heb h3 hb3 => ?_
    simp only [e_fd, e_nck, e_pkt, e_pkf, e_gdtt, e_gdtf, e_gdft, e_gdff, e_ift, e_iff, e_not, e_ln, e_lnT, e_cp, e_cvi, e_ex20, e_ex21, e_ex30, e_ex31, e_ex32, e_add, e_sub, e_mul, e_quo, e_rem, e_and, e_or, e_xor, e_shl, e_shr, e_eql, e_neq, e_lss, e_leq, e_gtr, e_geq, e_beq, e_bne, e_peq1, e_peq2, e_pne1, e_pne2, e_zeq1, e_zeq2, e_zne1, e_zne2, e_feq1, e_fne1, e_feq2, e_fne2, e_seq, e_sne, e_ta1, e_ta2, Nat.zero_add, Nat.add_zero, Bool.not_true, Bool.not_false]
    refine codeOf_err h3 ?_
    simp only [bne_self_eq_false, e_fd, e_nck, e_pkt, e_pkf, e_gdtt, e_gdtf, e_gdft, e_gdff, e_ift, e_iff, e_not, e_ln, e_lnT, e_cp, e_cvi, e_ex20, e_ex21, e_ex30, e_ex31, e_ex32, e_add, e_sub, e_mul, e_quo, e_rem, e_and, e_or, e_xor, e_shl, e_shr, e_eql, e_neq, e_lss, e_leq, e_gtr, e_geq, e_beq, e_bne, e_peq1, e_peq2, e_pne1, e_pne2, e_zeq1, e_zeq2, e_zne1, e_zne2, e_feq1, e_fne1, e_feq2, e_fne2, e_seq, e_sne, e_ta1, e_ta2, Nat.zero_add, Nat.add_zero, Bool.not_true, Bool.not_false]
    refine ⟨7 - (i + 1), by omega, i + 1, ?_, by omega, rfl, ?_, ?_⟩
    · rw [wrap64_id (by omega) (by omega)]
      rfl
    · have hbw := h.lt
      refine hb3.row' (hb2.row (hb1.row' h) ?_)
      intro (e : b = _); omega
    · exact ((hw.trans hb1).then hb2 (by intro k hk (e : k = _); have := hw.size; omega)).trans hb3
  · have hlt' : ¬ ((i : Int) < 7) := by omega
    simp only [hlt', decide_false, e_fd, e_nck, e_pkt, e_pkf, e_gdtt, e_gdtf, e_gdft, e_gdff, e_ift, e_iff, e_not, e_ln, e_lnT, e_cp, e_cvi, e_ex20, e_ex21, e_ex30, e_ex31, e_ex32, e_add, e_sub, e_mul, e_quo, e_rem, e_and, e_or, e_xor, e_shl, e_shr, e_eql, e_neq, e_lss, e_leq, e_gtr, e_geq, e_beq, e_bne, e_peq1, e_peq2, e_pne1, e_pne2, e_zeq1, e_zeq2, e_zne1, e_zne2, e_feq1, e_fne1, e_feq2, e_fne2, e_seq, e_sne, e_ta1, e_ta2, Nat.zero_add, Nat.add_zero, Bool.not_true, Bool.not_false]
    apply hK w hw

set_option maxRecDepth 100000 in
theorem law_ok {K : Value → World → Prop} {w : World} (hK : ∀ w', Kp (fun _ => False) w w' → K (.bool true) w') : cl Try.prog 10 #[] K w := by
  apply c10
  unfold s10_p11
  iterate 7 (apply bdq_r rfl)
  apply bsq_r (l := geoCells badG) rfl
  intro w1 h1 hb1 hz1
  simp only [e_fd, e_nck, e_pkt, e_pkf, e_gdtt, e_gdtf, e_gdft, e_gdff, e_ift, e_iff, e_not, e_ln, e_lnT, e_cp, e_cvi, e_ex20, e_ex21, e_ex30, e_ex31, e_ex32, e_add, e_sub, e_mul, e_quo, e_rem, e_and, e_or, e_xor, e_shl, e_shr, e_eql, e_neq, e_lss, e_leq, e_gtr, e_geq, e_beq, e_bne, e_peq1, e_peq2, e_pne1, e_pne2, e_zeq1, e_zeq2, e_zne1, e_zne2, e_feq1, e_fne1, e_feq2, e_fne2, e_seq, e_sne, e_ta1, e_ta2, Nat.zero_add, Nat.add_zero, Bool.not_true, Bool.not_false]
  unfold s10_p10
  apply bad_loop w h1 hb1
  intro w2 hb2
  unfold s10_p8
  iterate 3 (apply bdq_r rfl)
  apply bsq_r (l := geoCells (goodG.map fun g => ((g.1 : Int), (g.2 : Int)))) rfl
  intro w3 h3 hb3 hz3
  simp only [e_fd, e_nck, e_pkt, e_pkf, e_gdtt, e_gdtf, e_gdft, e_gdff, e_ift, e_iff, e_not, e_ln, e_lnT, e_cp, e_cvi, e_ex20, e_ex21, e_ex30, e_ex31, e_ex32, e_add, e_sub, e_mul, e_quo, e_rem, e_and, e_or, e_xor, e_shl, e_shr, e_eql, e_neq, e_lss, e_leq, e_gtr, e_geq, e_beq, e_bne, e_peq1, e_peq2, e_pne1, e_pne2, e_zeq1, e_zeq2, e_zne1, e_zne2, e_feq1, e_fne1, e_feq2, e_fne2, e_seq, e_sne, e_ta1, e_ta2, Nat.zero_add, Nat.add_zero, Bool.not_true, Bool.not_false]
  unfold s10_p7
  exact good_loop w h3 (hb2.trans hb3) hK

theorem walk (w : World) : Calls Try.prog 10 #[] w fun e w' => e = .returned (.bool true) ∧ Below w.heap.size w w' :=
  Calls.mono (law_ok (K := fun v w' => v = .bool true ∧ Below w.heap.size w w') fun w' h => ⟨rfl, h.below'⟩) fun e w' ⟨v, he, hv, hb⟩ => ⟨by rw [he, hv], hb⟩
end Go.Proofs.Qxb6500895a
