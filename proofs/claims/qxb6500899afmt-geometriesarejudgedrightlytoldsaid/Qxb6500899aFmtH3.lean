import Derived.Test.Qxb6500899aFmtH2
import Derived.Test.Qxb6500899aFmtAs
import Derived.Test.Qxb6500899aFmtShEq2
import Derived.Test.Qxb6500899aFmtShLeaf
namespace Go.Proofs.Qxb6500899aFmt
open Go.Sh Go.RowKit
set_option linter.unusedVariables false
set_option linter.unusedSimpArgs false

abbrev nilS : Value := .slice none 0 0
def good (s n c : Nat) : Prop := (16 ≤ s ∧ s ≤ 65536) ∧ s &&& (s - 1) = 0 ∧ (1 ≤ n ∧ n ≤ 1099511627776) ∧ (1 ≤ c ∧ c ≤ 65536)
theorem l3 {α : Type} {x : α} {p : α → Prop} (h0 : p x) : ∀ y ∈ [x], p y := by simpa using h0
section
variable {w w' : World} {K : Value → World → Prop} {s n c : Nat}
/-- an error of the geometry -/
def GErr (w : World) (v : Value) : Prop := ∃ b str, v = .iface 58 (P b 0) ∧ Row w b 62 [U8 1, .string ⟨#[99, 104, 101, 99, 107]⟩, U64 0, I 0, .string str]
theorem fin13 {str : ByteArray} (hK : ∀ w' v, Kp (fun _ => False) w w' → GErr w' v → K v w') : s13_p1 K (.string str) w := by
  unfold s13_p1
  refine bdq_r (l := [U8 1, .string ⟨#[99, 104, 101, 99, 107]⟩, U64 0, I 0, .string str]) rfl ?_
  refine nw_r fun w1 r1 hk1 hz1 => ?_
  exact hK w1 _ hk1 ⟨_, str, rfl, r1⟩
theorem check_ok (hs : s < 4294967296) (hn : n < 18446744073709551616) (hc : c < 4294967296)
    (hg : good s n c → ∀ w', Kp (fun _ => False) w w' → K .nilIface w') (hb : ¬ good s n c → ∀ w' v, Kp (fun _ => False) w w' → GErr w' v → K v w') : cl Tryf.prog 13 #[.agg #[U32 (s : Nat), U64 (n : Nat), U32 (c : Nat)]] K w := by
  apply c13
  unfold s13_p2
  refine nw_r fun w1 r1 hk1 hz1 => ?_
  replace r1 : Row w1 w.heap.size 29 [U32 (s : Nat), U64 (n : Nat), U32 (c : Nat)] := r1
  try simp only [e_fd, e_nck, e_pkt, e_pkf, e_gdtt, e_gdtf, e_gdft, e_gdff, e_ift, e_iff, e_not, e_ln, e_lnT, e_cp, e_cvi, e_ex20, e_ex21, e_ex30, e_ex31, e_ex32, e_add, e_sub, e_mul, e_quo, e_rem, e_and, e_or, e_xor, e_shl, e_shr, e_eql, e_neq, e_lss, e_leq, e_gtr, e_geq, e_beq, e_bne, e_peq1, e_peq2, e_pne1, e_pne2, e_zeq1, e_zeq2, e_zne1, e_zne2, e_feq1, e_fne1, e_feq2, e_fne2, e_seq, e_sne, e_ta1, e_ta2, Nat.zero_add, Nat.add_zero, Bool.not_true, Bool.not_false]
  refine ld1_r r1 rfl ?_
  try simp only [e_fd, e_nck, e_pkt, e_pkf, e_gdtt, e_gdtf, e_gdft, e_gdff, e_ift, e_iff, e_not, e_ln, e_lnT, e_cp, e_cvi, e_ex20, e_ex21, e_ex30, e_ex31, e_ex32, e_add, e_sub, e_mul, e_quo, e_rem, e_and, e_or, e_xor, e_shl, e_shr, e_eql, e_neq, e_lss, e_leq, e_gtr, e_geq, e_beq, e_bne, e_peq1, e_peq2, e_pne1, e_pne2, e_zeq1, e_zeq2, e_zne1, e_zne2, e_feq1, e_fne1, e_feq2, e_fne2, e_seq, e_sne, e_ta1, e_ta2, Nat.zero_add, Nat.add_zero, Bool.not_true, Bool.not_false]
  have bad1 : ¬ (16 ≤ s ∧ s ≤ 65536) → bsq 20 [.nilIface] 3 [(some (0, 1), (.iface 26 (U32 (s : Nat)))), (some (1, 1), (.iface 3 (.int .i64 16))), (some (2, 1), (.iface 3 (.int .i64 65536)))] (fun t18 w =>
      cx Tryf.prog 20 #[(.string ⟨#[115, 101, 99, 116, 111, 114, 32, 115, 105, 122, 101, 32, 37, 100, 32, 105, 115, 32, 110, 111, 116, 32, 119, 105, 116, 104, 105, 110, 32, 37, 100, 46, 46, 37, 100]⟩), t18] (fun t19 w => s13_p1 K t19 w) w) w1 := by
    intro hng
    refine bsq_r (l := [.iface 26 (U32 (s : Nat)), .iface 3 (I 16), .iface 3 (I 65536)]) rfl fun w2 r2 hk2 hz2 => ?_
    refine sprintf_ok (is := [0, 1, 2]) r2 rfl (by
      intro v hv
      simp only [List.mem_cons, List.not_mem_nil, or_false] at hv
      rcases hv with rfl | rfl | rfl
      · exact rd26 _
      · exact rd3 _
      · exact rd3 _) (by decide +kernel) (by simp) fun str w3 hk3 => ?_
    exact fin13 fun w4 v hk4 he => hb (fun q => hng q.1) w4 v (((hk1.trans hk2).trans hk3).trans hk4) he
  by_cases h16 : 16 ≤ s
  · have e1 : ¬ ((s : Nat) : Int) < 16 := by omega
    simp only [e1, decide_false, e_fd, e_nck, e_pkt, e_pkf, e_gdtt, e_gdtf, e_gdft, e_gdff, e_ift, e_iff, e_not, e_ln, e_lnT, e_cp, e_cvi, e_ex20, e_ex21, e_ex30, e_ex31, e_ex32, e_add, e_sub, e_mul, e_quo, e_rem, e_and, e_or, e_xor, e_shl, e_shr, e_eql, e_neq, e_lss, e_leq, e_gtr, e_geq, e_beq, e_bne, e_peq1, e_peq2, e_pne1, e_pne2, e_zeq1, e_zeq2, e_zne1, e_zne2, e_feq1, e_fne1, e_feq2, e_fne2, e_seq, e_sne, e_ta1, e_ta2, Nat.zero_add, Nat.add_zero, Bool.not_true, Bool.not_false]
    refine ld1_r r1 rfl ?_
    try simp only [e_fd, e_nck, e_pkt, e_pkf, e_gdtt, e_gdtf, e_gdft, e_gdff, e_ift, e_iff, e_not, e_ln, e_lnT, e_cp, e_cvi, e_ex20, e_ex21, e_ex30, e_ex31, e_ex32, e_add, e_sub, e_mul, e_quo, e_rem, e_and, e_or, e_xor, e_shl, e_shr, e_eql, e_neq, e_lss, e_leq, e_gtr, e_geq, e_beq, e_bne, e_peq1, e_peq2, e_pne1, e_pne2, e_zeq1, e_zeq2, e_zne1, e_zne2, e_feq1, e_fne1, e_feq2, e_fne2, e_seq, e_sne, e_ta1, e_ta2, Nat.zero_add, Nat.add_zero, Bool.not_true, Bool.not_false]
    by_cases h65 : s ≤ 65536
    · have e2 : ¬ (65536 : Int) < ((s : Nat) : Int) := by omega
      simp only [e2, decide_false, e_fd, e_nck, e_pkt, e_pkf, e_gdtt, e_gdtf, e_gdft, e_gdff, e_ift, e_iff, e_not, e_ln, e_lnT, e_cp, e_cvi, e_ex20, e_ex21, e_ex30, e_ex31, e_ex32, e_add, e_sub, e_mul, e_quo, e_rem, e_and, e_or, e_xor, e_shl, e_shr, e_eql, e_neq, e_lss, e_leq, e_gtr, e_geq, e_beq, e_bne, e_peq1, e_peq2, e_pne1, e_pne2, e_zeq1, e_zeq2, e_zne1, e_zne2, e_feq1, e_fne1, e_feq2, e_fne2, e_seq, e_sne, e_ta1, e_ta2, Nat.zero_add, Nat.add_zero, Bool.not_true, Bool.not_false]
      refine ld1_r r1 rfl ?_
      refine ones_ok h65 fun w2 hk2 => ?_
      have r2 := hk2.row' r1
      have k2 := hk1.trans hk2
      try simp only [e_fd, e_nck, e_pkt, e_pkf, e_gdtt, e_gdtf, e_gdft, e_gdff, e_ift, e_iff, e_not, e_ln, e_lnT, e_cp, e_cvi, e_ex20, e_ex21, e_ex30, e_ex31, e_ex32, e_add, e_sub, e_mul, e_quo, e_rem, e_and, e_or, e_xor, e_shl, e_shr, e_eql, e_neq, e_lss, e_leq, e_gtr, e_geq, e_beq, e_bne, e_peq1, e_peq2, e_pne1, e_pne2, e_zeq1, e_zeq2, e_zne1, e_zne2, e_feq1, e_fne1, e_feq2, e_fne2, e_seq, e_sne, e_ta1, e_ta2, Nat.zero_add, Nat.add_zero, Bool.not_true, Bool.not_false]
      by_cases ho : ones s = 1
      · have e3 : (((ones s : Nat) : Int) != 1) = false := by rw [ho]; rfl
        simp only [e3, e_fd, e_nck, e_pkt, e_pkf, e_gdtt, e_gdtf, e_gdft, e_gdff, e_ift, e_iff, e_not, e_ln, e_lnT, e_cp, e_cvi, e_ex20, e_ex21, e_ex30, e_ex31, e_ex32, e_add, e_sub, e_mul, e_quo, e_rem, e_and, e_or, e_xor, e_shl, e_shr, e_eql, e_neq, e_lss, e_leq, e_gtr, e_geq, e_beq, e_bne, e_peq1, e_peq2, e_pne1, e_pne2, e_zeq1, e_zeq2, e_zne1, e_zne2, e_feq1, e_fne1, e_feq2, e_fne2, e_seq, e_sne, e_ta1, e_ta2, Nat.zero_add, Nat.add_zero, Bool.not_true, Bool.not_false]
        refine ld1_r r2 rfl ?_
        try simp only [e_fd, e_nck, e_pkt, e_pkf, e_gdtt, e_gdtf, e_gdft, e_gdff, e_ift, e_iff, e_not, e_ln, e_lnT, e_cp, e_cvi, e_ex20, e_ex21, e_ex30, e_ex31, e_ex32, e_add, e_sub, e_mul, e_quo, e_rem, e_and, e_or, e_xor, e_shl, e_shr, e_eql, e_neq, e_lss, e_leq, e_gtr, e_geq, e_beq, e_bne, e_peq1, e_peq2, e_pne1, e_pne2, e_zeq1, e_zeq2, e_zne1, e_zne2, e_feq1, e_fne1, e_feq2, e_fne2, e_seq, e_sne, e_ta1, e_ta2, Nat.zero_add, Nat.add_zero, Bool.not_true, Bool.not_false]
        have hp := (ones_iff h16 h65).1 ho
        have bad3 : ¬ (1 ≤ n ∧ n ≤ 1099511627776) → bsq 20 [.nilIface] 2 [(some (0, 1), (.iface 25 (U64 (n : Nat)))), (some (1, 1), (.iface 25 (.int .u64 1099511627776)))] (fun t43 w =>
            cx Tryf.prog 20 #[(.string ⟨#[37, 100, 32, 115, 101, 99, 116, 111, 114, 115, 32, 105, 115, 32, 110, 111, 116, 32, 119, 105, 116, 104, 105, 110, 32, 49, 46, 46, 37, 100]⟩), t43] (fun t44 w => s13_p1 K t44 w) w) w2 := by
          intro hng
          refine bsq_r (l := [.iface 25 (U64 (n : Nat)), .iface 25 (U64 1099511627776)]) rfl fun w3 r3 hk3 hz3 => ?_
          refine sprintf_ok (is := [0, 1]) r3 rfl (by
            intro v hv
            simp only [List.mem_cons, List.not_mem_nil, or_false] at hv
            rcases hv with rfl | rfl
            · exact rd25 _
            · exact rd25 _) (by decide +kernel) (by simp) fun str w4 hk4 => ?_
          exact fin13 fun w5 v hk5 he => hb (fun q => hng q.2.2.1) w5 v (((k2.trans hk3).trans hk4).trans hk5) he
        by_cases hn0 : n = 0
        · have e4 : (((n : Nat) : Int) == 0) = true := by rw [beq_iff_eq]; omega
          simp only [e4, e_fd, e_nck, e_pkt, e_pkf, e_gdtt, e_gdtf, e_gdft, e_gdff, e_ift, e_iff, e_not, e_ln, e_lnT, e_cp, e_cvi, e_ex20, e_ex21, e_ex30, e_ex31, e_ex32, e_add, e_sub, e_mul, e_quo, e_rem, e_and, e_or, e_xor, e_shl, e_shr, e_eql, e_neq, e_lss, e_leq, e_gtr, e_geq, e_beq, e_bne, e_peq1, e_peq2, e_pne1, e_pne2, e_zeq1, e_zeq2, e_zne1, e_zne2, e_feq1, e_fne1, e_feq2, e_fne2, e_seq, e_sne, e_ta1, e_ta2, Nat.zero_add, Nat.add_zero, Bool.not_true, Bool.not_false]
          refine ld1_r r2 rfl ?_
          exact bad3 (by omega)
        · have e4 : (((n : Nat) : Int) == 0) = false := by rw [beq_eq_false_iff_ne]; omega
          simp only [e4, e_fd, e_nck, e_pkt, e_pkf, e_gdtt, e_gdtf, e_gdft, e_gdff, e_ift, e_iff, e_not, e_ln, e_lnT, e_cp, e_cvi, e_ex20, e_ex21, e_ex30, e_ex31, e_ex32, e_add, e_sub, e_mul, e_quo, e_rem, e_and, e_or, e_xor, e_shl, e_shr, e_eql, e_neq, e_lss, e_leq, e_gtr, e_geq, e_beq, e_bne, e_peq1, e_peq2, e_pne1, e_pne2, e_zeq1, e_zeq2, e_zne1, e_zne2, e_feq1, e_fne1, e_feq2, e_fne2, e_seq, e_sne, e_ta1, e_ta2, Nat.zero_add, Nat.add_zero, Bool.not_true, Bool.not_false]
          refine ld1_r r2 rfl ?_
          try simp only [e_fd, e_nck, e_pkt, e_pkf, e_gdtt, e_gdtf, e_gdft, e_gdff, e_ift, e_iff, e_not, e_ln, e_lnT, e_cp, e_cvi, e_ex20, e_ex21, e_ex30, e_ex31, e_ex32, e_add, e_sub, e_mul, e_quo, e_rem, e_and, e_or, e_xor, e_shl, e_shr, e_eql, e_neq, e_lss, e_leq, e_gtr, e_geq, e_beq, e_bne, e_peq1, e_peq2, e_pne1, e_pne2, e_zeq1, e_zeq2, e_zne1, e_zne2, e_feq1, e_fne1, e_feq2, e_fne2, e_seq, e_sne, e_ta1, e_ta2, Nat.zero_add, Nat.add_zero, Bool.not_true, Bool.not_false]
          by_cases hn1 : n ≤ 1099511627776
          · have e5 : ¬ (1099511627776 : Int) < ((n : Nat) : Int) := by omega
            simp only [e5, decide_false, e_fd, e_nck, e_pkt, e_pkf, e_gdtt, e_gdtf, e_gdft, e_gdff, e_ift, e_iff, e_not, e_ln, e_lnT, e_cp, e_cvi, e_ex20, e_ex21, e_ex30, e_ex31, e_ex32, e_add, e_sub, e_mul, e_quo, e_rem, e_and, e_or, e_xor, e_shl, e_shr, e_eql, e_neq, e_lss, e_leq, e_gtr, e_geq, e_beq, e_bne, e_peq1, e_peq2, e_pne1, e_pne2, e_zeq1, e_zeq2, e_zne1, e_zne2, e_feq1, e_fne1, e_feq2, e_fne2, e_seq, e_sne, e_ta1, e_ta2, Nat.zero_add, Nat.add_zero, Bool.not_true, Bool.not_false]
            refine ld1_r r2 rfl ?_
            try simp only [e_fd, e_nck, e_pkt, e_pkf, e_gdtt, e_gdtf, e_gdft, e_gdff, e_ift, e_iff, e_not, e_ln, e_lnT, e_cp, e_cvi, e_ex20, e_ex21, e_ex30, e_ex31, e_ex32, e_add, e_sub, e_mul, e_quo, e_rem, e_and, e_or, e_xor, e_shl, e_shr, e_eql, e_neq, e_lss, e_leq, e_gtr, e_geq, e_beq, e_bne, e_peq1, e_peq2, e_pne1, e_pne2, e_zeq1, e_zeq2, e_zne1, e_zne2, e_feq1, e_fne1, e_feq2, e_fne2, e_seq, e_sne, e_ta1, e_ta2, Nat.zero_add, Nat.add_zero, Bool.not_true, Bool.not_false]
            have bad4 : ¬ (1 ≤ c ∧ c ≤ 65536) → bsq 20 [.nilIface] 2 [(some (0, 1), (.iface 26 (U32 (c : Nat)))), (some (1, 1), (.iface 3 (.int .i64 65536)))] (fun t58 w =>
                cx Tryf.prog 20 #[(.string ⟨#[37, 100, 32, 99, 97, 99, 104, 101, 32, 115, 108, 111, 116, 115, 32, 105, 115, 32, 110, 111, 116, 32, 119, 105, 116, 104, 105, 110, 32, 49, 46, 46, 37, 100]⟩), t58] (fun t59 w => s13_p1 K t59 w) w) w2 := by
              intro hng
              refine bsq_r (l := [.iface 26 (U32 (c : Nat)), .iface 3 (I 65536)]) rfl fun w3 r3 hk3 hz3 => ?_
              refine sprintf_ok (is := [0, 1]) r3 rfl (by
                intro v hv
                simp only [List.mem_cons, List.not_mem_nil, or_false] at hv
                rcases hv with rfl | rfl
                · exact rd26 _
                · exact rd3 _) (by decide +kernel) (by simp) fun str w4 hk4 => ?_
              exact fin13 fun w5 v hk5 he => hb (fun q => hng q.2.2.2) w5 v (((k2.trans hk3).trans hk4).trans hk5) he
            by_cases hc0 : c = 0
            · have e6 : (((c : Nat) : Int) == 0) = true := by rw [beq_iff_eq]; omega
              simp only [e6, e_fd, e_nck, e_pkt, e_pkf, e_gdtt, e_gdtf, e_gdft, e_gdff, e_ift, e_iff, e_not, e_ln, e_lnT, e_cp, e_cvi, e_ex20, e_ex21, e_ex30, e_ex31, e_ex32, e_add, e_sub, e_mul, e_quo, e_rem, e_and, e_or, e_xor, e_shl, e_shr, e_eql, e_neq, e_lss, e_leq, e_gtr, e_geq, e_beq, e_bne, e_peq1, e_peq2, e_pne1, e_pne2, e_zeq1, e_zeq2, e_zne1, e_zne2, e_feq1, e_fne1, e_feq2, e_fne2, e_seq, e_sne, e_ta1, e_ta2, Nat.zero_add, Nat.add_zero, Bool.not_true, Bool.not_false]
              refine ld1_r r2 rfl ?_
              exact bad4 (by omega)
            · have e6 : (((c : Nat) : Int) == 0) = false := by rw [beq_eq_false_iff_ne]; omega
              simp only [e6, e_fd, e_nck, e_pkt, e_pkf, e_gdtt, e_gdtf, e_gdft, e_gdff, e_ift, e_iff, e_not, e_ln, e_lnT, e_cp, e_cvi, e_ex20, e_ex21, e_ex30, e_ex31, e_ex32, e_add, e_sub, e_mul, e_quo, e_rem, e_and, e_or, e_xor, e_shl, e_shr, e_eql, e_neq, e_lss, e_leq, e_gtr, e_geq, e_beq, e_bne, e_peq1, e_peq2, e_pne1, e_pne2, e_zeq1, e_zeq2, e_zne1, e_zne2, e_feq1, e_fne1, e_feq2, e_fne2, e_seq, e_sne, e_ta1, e_ta2, Nat.zero_add, Nat.add_zero, Bool.not_true, Bool.not_false]
              refine ld1_r r2 rfl ?_
              try simp only [e_fd, e_nck, e_pkt, e_pkf, e_gdtt, e_gdtf, e_gdft, e_gdff, e_ift, e_iff, e_not, e_ln, e_lnT, e_cp, e_cvi, e_ex20, e_ex21, e_ex30, e_ex31, e_ex32, e_add, e_sub, e_mul, e_quo, e_rem, e_and, e_or, e_xor, e_shl, e_shr, e_eql, e_neq, e_lss, e_leq, e_gtr, e_geq, e_beq, e_bne, e_peq1, e_peq2, e_pne1, e_pne2, e_zeq1, e_zeq2, e_zne1, e_zne2, e_feq1, e_fne1, e_feq2, e_fne2, e_seq, e_sne, e_ta1, e_ta2, Nat.zero_add, Nat.add_zero, Bool.not_true, Bool.not_false]
              by_cases hc1 : c ≤ 65536
              · have e7 : ¬ (65536 : Int) < ((c : Nat) : Int) := by omega
                simp only [e7, decide_false, e_fd, e_nck, e_pkt, e_pkf, e_gdtt, e_gdtf, e_gdft, e_gdff, e_ift, e_iff, e_not, e_ln, e_lnT, e_cp, e_cvi, e_ex20, e_ex21, e_ex30, e_ex31, e_ex32, e_add, e_sub, e_mul, e_quo, e_rem, e_and, e_or, e_xor, e_shl, e_shr, e_eql, e_neq, e_lss, e_leq, e_gtr, e_geq, e_beq, e_bne, e_peq1, e_peq2, e_pne1, e_pne2, e_zeq1, e_zeq2, e_zne1, e_zne2, e_feq1, e_fne1, e_feq2, e_fne2, e_seq, e_sne, e_ta1, e_ta2, Nat.zero_add, Nat.add_zero, Bool.not_true, Bool.not_false]
                exact hg ⟨⟨h16, h65⟩, hp, ⟨by omega, hn1⟩, by omega, hc1⟩ w2 k2
              · have e7 : (65536 : Int) < ((c : Nat) : Int) := by omega
                simp only [e7, decide_true, e_fd, e_nck, e_pkt, e_pkf, e_gdtt, e_gdtf, e_gdft, e_gdff, e_ift, e_iff, e_not, e_ln, e_lnT, e_cp, e_cvi, e_ex20, e_ex21, e_ex30, e_ex31, e_ex32, e_add, e_sub, e_mul, e_quo, e_rem, e_and, e_or, e_xor, e_shl, e_shr, e_eql, e_neq, e_lss, e_leq, e_gtr, e_geq, e_beq, e_bne, e_peq1, e_peq2, e_pne1, e_pne2, e_zeq1, e_zeq2, e_zne1, e_zne2, e_feq1, e_fne1, e_feq2, e_fne2, e_seq, e_sne, e_ta1, e_ta2, Nat.zero_add, Nat.add_zero, Bool.not_true, Bool.not_false]
                refine ld1_r r2 rfl ?_
                exact bad4 (by omega)
          · have e5 : (1099511627776 : Int) < ((n : Nat) : Int) := by omega
            simp only [e5, decide_true, e_fd, e_nck, e_pkt, e_pkf, e_gdtt, e_gdtf, e_gdft, e_gdff, e_ift, e_iff, e_not, e_ln, e_lnT, e_cp, e_cvi, e_ex20, e_ex21, e_ex30, e_ex31, e_ex32, e_add, e_sub, e_mul, e_quo, e_rem, e_and, e_or, e_xor, e_shl, e_shr, e_eql, e_neq, e_lss, e_leq, e_gtr, e_geq, e_beq, e_bne, e_peq1, e_peq2, e_pne1, e_pne2, e_zeq1, e_zeq2, e_zne1, e_zne2, e_feq1, e_fne1, e_feq2, e_fne2, e_seq, e_sne, e_ta1, e_ta2, Nat.zero_add, Nat.add_zero, Bool.not_true, Bool.not_false]
            refine ld1_r r2 rfl ?_
            exact bad3 (by omega)
      · have e3 : (((ones s : Nat) : Int) != 1) = true := by rw [bne_iff_ne]; omega
        simp only [e3, e_fd, e_nck, e_pkt, e_pkf, e_gdtt, e_gdtf, e_gdft, e_gdff, e_ift, e_iff, e_not, e_ln, e_lnT, e_cp, e_cvi, e_ex20, e_ex21, e_ex30, e_ex31, e_ex32, e_add, e_sub, e_mul, e_quo, e_rem, e_and, e_or, e_xor, e_shl, e_shr, e_eql, e_neq, e_lss, e_leq, e_gtr, e_geq, e_beq, e_bne, e_peq1, e_peq2, e_pne1, e_pne2, e_zeq1, e_zeq2, e_zne1, e_zne2, e_feq1, e_fne1, e_feq2, e_fne2, e_seq, e_sne, e_ta1, e_ta2, Nat.zero_add, Nat.add_zero, Bool.not_true, Bool.not_false]
        refine ld1_r r2 rfl ?_
        refine bsq_r (l := [.iface 26 (U32 (s : Nat))]) rfl fun w3 r3 hk3 hz3 => ?_
        refine sprintf_ok (is := [0]) r3 rfl (by
          intro v hv
          simp only [List.mem_cons, List.not_mem_nil, or_false] at hv
          rw [hv]
          exact rd26 _) (by decide +kernel) (by simp) fun str w4 hk4 => ?_
        exact fin13 fun w5 v hk5 he => hb (fun q => ho ((ones_iff h16 h65).2 q.2.1)) w5 v (((k2.trans hk3).trans hk4).trans hk5) he
    · have e2 : (65536 : Int) < ((s : Nat) : Int) := by omega
      simp only [e2, decide_true, e_fd, e_nck, e_pkt, e_pkf, e_gdtt, e_gdtf, e_gdft, e_gdff, e_ift, e_iff, e_not, e_ln, e_lnT, e_cp, e_cvi, e_ex20, e_ex21, e_ex30, e_ex31, e_ex32, e_add, e_sub, e_mul, e_quo, e_rem, e_and, e_or, e_xor, e_shl, e_shr, e_eql, e_neq, e_lss, e_leq, e_gtr, e_geq, e_beq, e_bne, e_peq1, e_peq2, e_pne1, e_pne2, e_zeq1, e_zeq2, e_zne1, e_zne2, e_feq1, e_fne1, e_feq2, e_fne2, e_seq, e_sne, e_ta1, e_ta2, Nat.zero_add, Nat.add_zero, Bool.not_true, Bool.not_false]
      refine ld1_r r1 rfl ?_
      exact bad1 (by omega)
  · have e1 : ((s : Nat) : Int) < 16 := by omega
    simp only [e1, decide_true, e_fd, e_nck, e_pkt, e_pkf, e_gdtt, e_gdtf, e_gdft, e_gdff, e_ift, e_iff, e_not, e_ln, e_lnT, e_cp, e_cvi, e_ex20, e_ex21, e_ex30, e_ex31, e_ex32, e_add, e_sub, e_mul, e_quo, e_rem, e_and, e_or, e_xor, e_shl, e_shr, e_eql, e_neq, e_lss, e_leq, e_gtr, e_geq, e_beq, e_bne, e_peq1, e_peq2, e_pne1, e_pne2, e_zeq1, e_zeq2, e_zne1, e_zne2, e_feq1, e_fne1, e_feq2, e_fne2, e_seq, e_sne, e_ta1, e_ta2, Nat.zero_add, Nat.add_zero, Bool.not_true, Bool.not_false]
    refine ld1_r r1 rfl ?_
    exact bad1 (by omega)
end
end Go.Proofs.Qxb6500899aFmt
