import Derived.Test.Qxb6500899aFmtH6
import Derived.Test.Qxb6500899aFmtShFlat
import Derived.Test.Qxb6500899aFmtShTZ
namespace Go.Proofs.Qxb6500899aFmt
open Go.Sh Go.RowKit
set_option linter.unusedVariables false
set_option linter.unusedSimpArgs false

set_option maxRecDepth 100000 in
theorem leaf31 : leafTs Tryf.prog 4 31 = some [24, 25, 26, 27, 25, 27, 26, 25, 26] := by kernel_rfl
set_option maxRecDepth 100000 in
theorem cells31 : Tryf.prog.cellsOf 31 = 9 := by kernel_rfl
set_option maxRecDepth 100000 in
theorem bytes31 : Tryf.prog.bytesOf 31 = 104 := by kernel_rfl
theorem reach_eq : reachBytes = 140737488351232 := rfl
structure Op where
  kind : Int
  sec : Nat
  len : Int
  da : Option Addr
  dn : Nat
  dc : Nat
  nn : Int
  ka : Option Addr
  kn : Nat
  kc : Nat
  s : Nat
  n : Nat
  c : Nat
def Op.cs (x : Op) : List Value := [U8 x.kind, U64 (x.sec : Nat), U32 x.len, .slice x.da x.dn x.dc, U64 x.nn, .slice x.ka x.kn x.kc, U32 (x.s : Nat), U64 (x.n : Nat), U32 (x.c : Nat)]
structure Op.Ok (x : Op) : Prop where
  hs : x.s < 4294967296
  hn : x.n < 18446744073709551616
  hc : x.c < 4294967296
  hsec : x.sec < 18446744073709551616
theorem Op.sc (x : Op) : x.cs.all scal = true := rfl
def Scr (W : World) (v : Value) (xs : List Op) : Prop :=
  (v = .slice none 0 0 ∧ xs = []) ∨ ∃ (a : Addr) (cap : Nat), v = .slice (some a) xs.length cap ∧ xs.length ≤ 140737488351232 ∧ ∀ j (h : j < xs.length), xs[j].Ok ∧ ∃ b o, a.add (j * 9) = ⟨b, o, none⟩ ∧ Cells W b o xs[j].cs
section
variable {W w : World} {v : Value} {xs : List Op} {K : Value → World → Prop}
theorem Scr.ln (h : Scr W v xs) (hK : K (I xs.length) w) : lnS v K w := by
  rcases h with ⟨rfl, rfl⟩ | ⟨a, cap, rfl, _⟩
  · exact hK
  · exact hK
theorem Scr.len (h : Scr W v xs) : xs.length ≤ 140737488351232 := by
  rcases h with ⟨rfl, rfl⟩ | ⟨a, cap, rfl, h, _⟩
  · simp
  · exact h
theorem Scr.ix (h : Scr W v xs) {j : Nat} (hj : j < xs.length) (hK : ∀ b o, Cells W b o xs[j].cs → xs[j].Ok → K (.pointer (some ⟨b, o, none⟩)) w) : ixs 9 v (I j) K w := by
  rcases h with ⟨rfl, rfl⟩ | ⟨a, cap, rfl, _, h⟩
  · simp at hj
  · refine ⟨⟨by omega, by omega⟩, ?_⟩
    have ej : ((j : Int)).toNat = j := by omega
    rw [ej]
    obtain ⟨ho, b, o, e, hc⟩ := h j hj
    rw [e]
    exact hK b o hc ho
end
section
variable {W : World} {f g : Nat} {cs : List Value} {u : Value}
theorem u32_of (h : TZ Tryf.prog W reachBytes g 26 [u]) : ∃ n : Nat, u = U32 (n : Nat) ∧ n < 4294967296 := by
  obtain ⟨n, e, hz⟩ := tz_int Tryf.underlying26 h
  simp only [List.cons.injEq, and_true] at e
  have e1 : IntKind.u32.min = 0 := by decide
  have e2 : IntKind.u32.max = 4294967295 := by decide
  simp only [Lit.wf, e1, e2, decide_eq_true_eq, Bool.and_eq_true] at hz
  exact ⟨n.toNat, by rw [e, Int.toNat_of_nonneg hz.1], by omega⟩
theorem u64_of (h : TZ Tryf.prog W reachBytes g 25 [u]) : ∃ n : Nat, u = U64 (n : Nat) ∧ n < 18446744073709551616 := by
  obtain ⟨n, e, hz⟩ := tz_int Tryf.underlying25 h
  simp only [List.cons.injEq, and_true] at e
  have e1 : IntKind.u64.min = 0 := by decide
  have e2 : IntKind.u64.max = 18446744073709551615 := by decide
  simp only [Lit.wf, e1, e2, decide_eq_true_eq, Bool.and_eq_true] at hz
  exact ⟨n.toNat, by rw [e, Int.toNat_of_nonneg hz.1], by omega⟩
theorem sl_of (h : TZ Tryf.prog W reachBytes g 27 [u]) : ∃ a n c, u = .slice a n c := by
  rcases tz_slice Tryf.underlying27 h with e | ⟨a, len, cap, gg, e, _⟩
  · simp only [List.cons.injEq, and_true] at e; exact ⟨_, _, _, e⟩
  · simp only [List.cons.injEq, and_true] at e; exact ⟨_, _, _, e⟩
theorem op_of (h : TZ Tryf.prog W reachBytes g 31 cs) : ∃ x : Op, x.Ok ∧ cs = x.cs := by
  obtain ⟨hl, hv⟩ := leafTs_ok 4 31 _ leaf31 g cs h
  have hlen : cs.length = 9 := hl
  obtain ⟨_, v0, e0, _, _, t0⟩ := hv 0 24 rfl
  obtain ⟨_, v1, e1, _, _, t1⟩ := hv 1 25 rfl
  obtain ⟨_, v2, e2, _, _, t2⟩ := hv 2 26 rfl
  obtain ⟨_, v3, e3, _, _, t3⟩ := hv 3 27 rfl
  obtain ⟨_, v4, e4, _, _, t4⟩ := hv 4 25 rfl
  obtain ⟨_, v5, e5, _, _, t5⟩ := hv 5 27 rfl
  obtain ⟨_, v6, e6, _, _, t6⟩ := hv 6 26 rfl
  obtain ⟨_, v7, e7, _, _, t7⟩ := hv 7 25 rfl
  obtain ⟨_, v8, e8, _, _, t8⟩ := hv 8 26 rfl
  obtain ⟨k, q0, _⟩ := tz_int Tryf.underlying24 t0
  simp only [List.cons.injEq, and_true] at q0
  obtain ⟨n1, q1, z1⟩ := u64_of t1
  obtain ⟨n2, q2, _⟩ := u32_of t2
  obtain ⟨da, dn, dc, q3⟩ := sl_of t3
  obtain ⟨n4, q4, _⟩ := u64_of t4
  obtain ⟨ka, kn, kc, q5⟩ := sl_of t5
  obtain ⟨n6, q6, z6⟩ := u32_of t6
  obtain ⟨n7, q7, z7⟩ := u64_of t7
  obtain ⟨n8, q8, z8⟩ := u32_of t8
  subst q0 q1 q2 q3 q4 q5 q6 q7 q8
  refine ⟨⟨k, n1, n2, da, dn, dc, n4, ka, kn, kc, n6, n7, n8⟩, ⟨z6, z7, z8, z1⟩, ?_⟩
  match cs, hlen with
  | [c0, c1, c2, c3, c4, c5, c6, c7, c8], _ =>
    simp only [List.getElem?_cons_zero, List.getElem?_cons_succ, Option.some.injEq] at e0 e1 e2 e3 e4 e5 e6 e7 e8
    subst e0 e1 e2 e3 e4 e5 e6 e7 e8
    rfl
theorem scr_of {v : Value} (h : TZ Tryf.prog W reachBytes f 22 v.cells.toList) (hv : ∃ a n c, v = .slice a n c) : ∃ xs, Scr W v xs := by
  obtain ⟨a0, n0, c0, rfl⟩ := hv
  rcases tz_slice Tryf.underlying22 h with e | ⟨a, len, cap, gg, e, hgg, hlc, hcm, hby, hel⟩
  · have : (Value.slice a0 n0 c0) = .slice none 0 0 := by simpa [Value.cells] using e
    exact ⟨[], .inl ⟨this, rfl⟩⟩
  · have e' : (Value.slice a0 n0 c0) = .slice (some a) len cap := by simpa [Value.cells] using e
    rw [cells31] at hel
    rw [bytes31, reach_eq] at hby
    obtain ⟨xs, hl, hxs⟩ := choose_list len (fun i (x : Op) => x.Ok ∧ ∃ b o, a.add (i * 9) = ⟨b, o, none⟩ ∧ Cells W b o x.cs) (fun i hi => by
      obtain ⟨ds, h1, h2⟩ := hel i hi
      obtain ⟨b, o, e1, e2, e3⟩ := cells_in h1 (by omega)
      obtain ⟨x, hx, e4⟩ := op_of h2
      exact ⟨x, hx, b, o, e1, by rw [← e4]; exact e3⟩)
    exact ⟨xs, .inr ⟨a, cap, by rw [e', hl], by omega, fun j hj => hxs j hj⟩⟩
end
section
variable {W w : World} {v : Value} {xs : List Op} {K : Value → World → Prop}
theorem small_ok (hs : Scr W v xs) (hb : Below W.heap.size W w) (hK : ∀ r, K (.bool r) w) : cl Tryf.prog 4 #[v] K w := by
  have hxn := hs.len
  apply c4
  unfold s4_p4
  refine hs.ln ?_
  try simp only [e_fd, e_nck, e_pkt, e_pkf, e_gdtt, e_gdtf, e_gdft, e_gdff, e_ift, e_iff, e_not, e_ln, e_lnT, e_cp, e_cvi, e_ex20, e_ex21, e_ex30, e_ex31, e_ex32, e_add, e_sub, e_mul, e_quo, e_rem, e_and, e_or, e_xor, e_shl, e_shr, e_eql, e_neq, e_lss, e_leq, e_gtr, e_geq, e_beq, e_bne, e_peq1, e_peq2, e_pne1, e_pne2, e_zeq1, e_zeq2, e_zne1, e_zne2, e_feq1, e_fne1, e_feq2, e_fne2, e_seq, e_sne, e_ta1, e_ta2, Nat.zero_add, Nat.add_zero, Bool.not_true, Bool.not_false]
  by_cases h0 : 65536 < (xs.length : Int)
  · simp only [h0, decide_true, e_fd, e_nck, e_pkt, e_pkf, e_gdtt, e_gdtf, e_gdft, e_gdff, e_ift, e_iff, e_not, e_ln, e_lnT, e_cp, e_cvi, e_ex20, e_ex21, e_ex30, e_ex31, e_ex32, e_add, e_sub, e_mul, e_quo, e_rem, e_and, e_or, e_xor, e_shl, e_shr, e_eql, e_neq, e_lss, e_leq, e_gtr, e_geq, e_beq, e_bne, e_peq1, e_peq2, e_pne1, e_pne2, e_zeq1, e_zeq2, e_zne1, e_zne2, e_feq1, e_fne1, e_feq2, e_fne2, e_seq, e_sne, e_ta1, e_ta2, Nat.zero_add, Nat.add_zero, Bool.not_true, Bool.not_false]
    exact hK false
  · simp only [h0, decide_false, e_fd, e_nck, e_pkt, e_pkf, e_gdtt, e_gdtf, e_gdft, e_gdff, e_ift, e_iff, e_not, e_ln, e_lnT, e_cp, e_cvi, e_ex20, e_ex21, e_ex30, e_ex31, e_ex32, e_add, e_sub, e_mul, e_quo, e_rem, e_and, e_or, e_xor, e_shl, e_shr, e_eql, e_neq, e_lss, e_leq, e_gtr, e_geq, e_beq, e_bne, e_peq1, e_peq2, e_pne1, e_pne2, e_zeq1, e_zeq2, e_zne1, e_zne2, e_feq1, e_fne1, e_feq2, e_fne2, e_seq, e_sne, e_ta1, e_ta2, Nat.zero_add, Nat.add_zero, Bool.not_true, Bool.not_false]
    unfold s4_p3
    refine ⟨fun m l w' => ∃ (i : Nat) (r : Int), i ≤ xs.length ∧ m = xs.length - i ∧ l = [v, I r, I i] ∧ w' = w,
      xs.length, ⟨0, _, by omega, by omega, rfl, rfl⟩, ?_⟩
    rintro m l w2 ⟨i, r, hi, hm, rfl, rfl⟩
    rw [s4_p3_Fe]
    unfold s4_p2
    refine hs.ln ?_
    try simp only [e_fd, e_nck, e_pkt, e_pkf, e_gdtt, e_gdtf, e_gdft, e_gdff, e_ift, e_iff, e_not, e_ln, e_lnT, e_cp, e_cvi, e_ex20, e_ex21, e_ex30, e_ex31, e_ex32, e_add, e_sub, e_mul, e_quo, e_rem, e_and, e_or, e_xor, e_shl, e_shr, e_eql, e_neq, e_lss, e_leq, e_gtr, e_geq, e_beq, e_bne, e_peq1, e_peq2, e_pne1, e_pne2, e_zeq1, e_zeq2, e_zne1, e_zne2, e_feq1, e_fne1, e_feq2, e_fne2, e_seq, e_sne, e_ta1, e_ta2, Nat.zero_add, Nat.add_zero, Bool.not_true, Bool.not_false]
    by_cases hlt : i < xs.length
    · have hlt' : (i : Int) < (xs.length : Int) := by omega
      simp only [hlt', decide_true, e_fd, e_nck, e_pkt, e_pkf, e_gdtt, e_gdtf, e_gdft, e_gdff, e_ift, e_iff, e_not, e_ln, e_lnT, e_cp, e_cvi, e_ex20, e_ex21, e_ex30, e_ex31, e_ex32, e_add, e_sub, e_mul, e_quo, e_rem, e_and, e_or, e_xor, e_shl, e_shr, e_eql, e_neq, e_lss, e_leq, e_gtr, e_geq, e_beq, e_bne, e_peq1, e_peq2, e_pne1, e_pne2, e_zeq1, e_zeq2, e_zne1, e_zne2, e_feq1, e_fne1, e_feq2, e_fne2, e_seq, e_sne, e_ta1, e_ta2, Nat.zero_add, Nat.add_zero, Bool.not_true, Bool.not_false]
      refine hs.ix hlt fun b o hc ho => ?_
      simp only [e_fd]
      refine (hc.below hb).ld1 (j := 3) rfl ?_
      try simp only [e_fd, e_nck, e_pkt, e_pkf, e_gdtt, e_gdtf, e_gdft, e_gdff, e_ift, e_iff, e_not, e_ln, e_lnT, e_cp, e_cvi, e_ex20, e_ex21, e_ex30, e_ex31, e_ex32, e_add, e_sub, e_mul, e_quo, e_rem, e_and, e_or, e_xor, e_shl, e_shr, e_eql, e_neq, e_lss, e_leq, e_gtr, e_geq, e_beq, e_bne, e_peq1, e_peq2, e_pne1, e_pne2, e_zeq1, e_zeq2, e_zne1, e_zne2, e_feq1, e_fne1, e_feq2, e_fne2, e_seq, e_sne, e_ta1, e_ta2, Nat.zero_add, Nat.add_zero, Bool.not_true, Bool.not_false]
      generalize IntKind.i64.wrap (r + _) = r1
      by_cases h1 : 65536 < r1
      · simp only [h1, decide_true, e_fd, e_nck, e_pkt, e_pkf, e_gdtt, e_gdtf, e_gdft, e_gdff, e_ift, e_iff, e_not, e_ln, e_lnT, e_cp, e_cvi, e_ex20, e_ex21, e_ex30, e_ex31, e_ex32, e_add, e_sub, e_mul, e_quo, e_rem, e_and, e_or, e_xor, e_shl, e_shr, e_eql, e_neq, e_lss, e_leq, e_gtr, e_geq, e_beq, e_bne, e_peq1, e_peq2, e_pne1, e_pne2, e_zeq1, e_zeq2, e_zne1, e_zne2, e_feq1, e_fne1, e_feq2, e_fne2, e_seq, e_sne, e_ta1, e_ta2, Nat.zero_add, Nat.add_zero, Bool.not_true, Bool.not_false]
        exact hK false
      · simp only [h1, decide_false, e_fd, e_nck, e_pkt, e_pkf, e_gdtt, e_gdtf, e_gdft, e_gdff, e_ift, e_iff, e_not, e_ln, e_lnT, e_cp, e_cvi, e_ex20, e_ex21, e_ex30, e_ex31, e_ex32, e_add, e_sub, e_mul, e_quo, e_rem, e_and, e_or, e_xor, e_shl, e_shr, e_eql, e_neq, e_lss, e_leq, e_gtr, e_geq, e_beq, e_bne, e_peq1, e_peq2, e_pne1, e_pne2, e_zeq1, e_zeq2, e_zne1, e_zne2, e_feq1, e_fne1, e_feq2, e_fne2, e_seq, e_sne, e_ta1, e_ta2, Nat.zero_add, Nat.add_zero, Bool.not_true, Bool.not_false]
        refine hs.ix hlt fun b o hc ho => ?_
        simp only [e_fd]
        refine (hc.below hb).ld1 (j := 5) rfl ?_
        try simp only [e_fd, e_nck, e_pkt, e_pkf, e_gdtt, e_gdtf, e_gdft, e_gdff, e_ift, e_iff, e_not, e_ln, e_lnT, e_cp, e_cvi, e_ex20, e_ex21, e_ex30, e_ex31, e_ex32, e_add, e_sub, e_mul, e_quo, e_rem, e_and, e_or, e_xor, e_shl, e_shr, e_eql, e_neq, e_lss, e_leq, e_gtr, e_geq, e_beq, e_bne, e_peq1, e_peq2, e_pne1, e_pne2, e_zeq1, e_zeq2, e_zne1, e_zne2, e_feq1, e_fne1, e_feq2, e_fne2, e_seq, e_sne, e_ta1, e_ta2, Nat.zero_add, Nat.add_zero, Bool.not_true, Bool.not_false]
        generalize IntKind.i64.wrap (r1 + _) = r2
        by_cases h2 : 65536 < r2
        · simp only [h2, decide_true, e_fd, e_nck, e_pkt, e_pkf, e_gdtt, e_gdtf, e_gdft, e_gdff, e_ift, e_iff, e_not, e_ln, e_lnT, e_cp, e_cvi, e_ex20, e_ex21, e_ex30, e_ex31, e_ex32, e_add, e_sub, e_mul, e_quo, e_rem, e_and, e_or, e_xor, e_shl, e_shr, e_eql, e_neq, e_lss, e_leq, e_gtr, e_geq, e_beq, e_bne, e_peq1, e_peq2, e_pne1, e_pne2, e_zeq1, e_zeq2, e_zne1, e_zne2, e_feq1, e_fne1, e_feq2, e_fne2, e_seq, e_sne, e_ta1, e_ta2, Nat.zero_add, Nat.add_zero, Bool.not_true, Bool.not_false]
          exact hK false
        · simp only [h2, decide_false, e_fd, e_nck, e_pkt, e_pkf, e_gdtt, e_gdtf, e_gdft, e_gdff, e_ift, e_iff, e_not, e_ln, e_lnT, e_cp, e_cvi, e_ex20, e_ex21, e_ex30, e_ex31, e_ex32, e_add, e_sub, e_mul, e_quo, e_rem, e_and, e_or, e_xor, e_shl, e_shr, e_eql, e_neq, e_lss, e_leq, e_gtr, e_geq, e_beq, e_bne, e_peq1, e_peq2, e_pne1, e_pne2, e_zeq1, e_zeq2, e_zne1, e_zne2, e_feq1, e_fne1, e_feq2, e_fne2, e_seq, e_sne, e_ta1, e_ta2, Nat.zero_add, Nat.add_zero, Bool.not_true, Bool.not_false]
          rw [wrap64_id (by omega) (by omega)]
          exact ⟨xs.length - (i + 1), by omega, i + 1, r2, by omega, rfl, by simp, by simp⟩
    · have hlt' : ¬ (i : Int) < (xs.length : Int) := by omega
      simp only [hlt', decide_false, e_fd, e_nck, e_pkt, e_pkf, e_gdtt, e_gdtf, e_gdft, e_gdff, e_ift, e_iff, e_not, e_ln, e_lnT, e_cp, e_cvi, e_ex20, e_ex21, e_ex30, e_ex31, e_ex32, e_add, e_sub, e_mul, e_quo, e_rem, e_and, e_or, e_xor, e_shl, e_shr, e_eql, e_neq, e_lss, e_leq, e_gtr, e_geq, e_beq, e_bne, e_peq1, e_peq2, e_pne1, e_pne2, e_zeq1, e_zeq2, e_zne1, e_zne2, e_feq1, e_fne1, e_feq2, e_fne2, e_seq, e_sne, e_ta1, e_ta2, Nat.zero_add, Nat.add_zero, Bool.not_true, Bool.not_false]
      unfold s4_p1
      exact hK true
end
end Go.Proofs.Qxb6500899aFmt
