import Derived.Test.Qxb6500894aDoorE4
namespace Go.Proofs.Qxb6500894aDoor
open Go.Sh Go.RowKit
set_option linter.unusedVariables false
set_option linter.unusedSimpArgs false

/-- zzDeep1: what it answers bounds the number of values inside -/
theorem deep_ok {W : World} : ∀ (f : Nat) (x : Vc), VOk W f x → ∀ (w : World) (n : Int) (K : Value → World → Prop), Below W.heap.size W w → 0 ≤ n → n ≤ 65536 →
    (∀ w' r, Kp (fun _ => False) w w' → n ≤ r → (r ≤ 65536 → n + ((wl W f x).length : Int) ≤ r) → K (I r) w') → cl Tryd.prog 38 #[.agg x.cells.toArray, I n] K w := by
  intro f
  induction f with
  | zero => intro x hx; exact hx.elim
  | succ f ih =>
    intro x hx w n K hbel n0 n1 hK
    have hxs := hx.scal
    obtain ⟨hss, hxl, hxk⟩ := hx
    have hxn := hxl.len
    unfold wl at hK
    simp only [List.length_cons] at hK
    apply c38
    unfold s38_p4
    refine nw_r fun w1 r1 hb1 hz1 => ?_
    replace r1 : Row w1 w.heap.size 52 x.cells := r1
    generalize w.heap.size = b at *
    try simp only [e_fd, e_nck, e_pkt, e_pkf, e_gdtt, e_gdtf, e_gdft, e_gdff, e_ift, e_iff, e_not, e_ln, e_lnT, e_cp, e_cvi, e_ex20, e_ex21, e_ex30, e_ex31, e_ex32, e_add, e_sub, e_mul, e_quo, e_rem, e_and, e_or, e_xor, e_shl, e_shr, e_eql, e_neq, e_lss, e_leq, e_gtr, e_geq, e_beq, e_bne, e_peq1, e_peq2, e_pne1, e_pne2, e_zeq1, e_zeq2, e_zne1, e_zne2, e_feq1, e_fne1, e_feq2, e_fne2, e_seq, e_sne, e_ta1, e_ta2, Nat.zero_add, Nat.add_zero, Bool.not_true, Bool.not_false]
    rw [wrap64_id (by omega) (by omega)]
    by_cases h1 : 65536 < n + 1
    · simp only [h1, decide_true, e_fd, e_nck, e_pkt, e_pkf, e_gdtt, e_gdtf, e_gdft, e_gdff, e_ift, e_iff, e_not, e_ln, e_lnT, e_cp, e_cvi, e_ex20, e_ex21, e_ex30, e_ex31, e_ex32, e_add, e_sub, e_mul, e_quo, e_rem, e_and, e_or, e_xor, e_shl, e_shr, e_eql, e_neq, e_lss, e_leq, e_gtr, e_geq, e_beq, e_bne, e_peq1, e_peq2, e_pne1, e_pne2, e_zeq1, e_zeq2, e_zne1, e_zne2, e_feq1, e_fne1, e_feq2, e_fne2, e_seq, e_sne, e_ta1, e_ta2, Nat.zero_add, Nat.add_zero, Bool.not_true, Bool.not_false]
      exact hK w1 (n + 1) hb1 (by omega) (by omega)
    · simp only [h1, decide_false, e_fd, e_nck, e_pkt, e_pkf, e_gdtt, e_gdtf, e_gdft, e_gdff, e_ift, e_iff, e_not, e_ln, e_lnT, e_cp, e_cvi, e_ex20, e_ex21, e_ex30, e_ex31, e_ex32, e_add, e_sub, e_mul, e_quo, e_rem, e_and, e_or, e_xor, e_shl, e_shr, e_eql, e_neq, e_lss, e_leq, e_gtr, e_geq, e_beq, e_bne, e_peq1, e_peq2, e_pne1, e_pne2, e_zeq1, e_zeq2, e_zne1, e_zne2, e_feq1, e_fne1, e_feq2, e_fne2, e_seq, e_sne, e_ta1, e_ta2, Nat.zero_add, Nat.add_zero, Bool.not_true, Bool.not_false]
      refine ld1_r r1 rfl ?_
      try simp only [e_fd, e_nck, e_pkt, e_pkf, e_gdtt, e_gdtf, e_gdft, e_gdff, e_ift, e_iff, e_not, e_ln, e_lnT, e_cp, e_cvi, e_ex20, e_ex21, e_ex30, e_ex31, e_ex32, e_add, e_sub, e_mul, e_quo, e_rem, e_and, e_or, e_xor, e_shl, e_shr, e_eql, e_neq, e_lss, e_leq, e_gtr, e_geq, e_beq, e_bne, e_peq1, e_peq2, e_pne1, e_pne2, e_zeq1, e_zeq2, e_zne1, e_zne2, e_feq1, e_fne1, e_feq2, e_fne2, e_seq, e_sne, e_ta1, e_ta2, Nat.zero_add, Nat.add_zero, Bool.not_true, Bool.not_false]
      rw [wrap64_id (by omega) (by omega)]
      by_cases h2 : 65536 < n + 1 + (x.s.size : Int)
      · simp only [h2, decide_true, e_fd, e_nck, e_pkt, e_pkf, e_gdtt, e_gdtf, e_gdft, e_gdff, e_ift, e_iff, e_not, e_ln, e_lnT, e_cp, e_cvi, e_ex20, e_ex21, e_ex30, e_ex31, e_ex32, e_add, e_sub, e_mul, e_quo, e_rem, e_and, e_or, e_xor, e_shl, e_shr, e_eql, e_neq, e_lss, e_leq, e_gtr, e_geq, e_beq, e_bne, e_peq1, e_peq2, e_pne1, e_pne2, e_zeq1, e_zeq2, e_zne1, e_zne2, e_feq1, e_fne1, e_feq2, e_fne2, e_seq, e_sne, e_ta1, e_ta2, Nat.zero_add, Nat.add_zero, Bool.not_true, Bool.not_false]
        exact hK w1 _ hb1 (by omega) (by omega)
      · simp only [h2, decide_false, e_fd, e_nck, e_pkt, e_pkf, e_gdtt, e_gdtf, e_gdft, e_gdff, e_ift, e_iff, e_not, e_ln, e_lnT, e_cp, e_cvi, e_ex20, e_ex21, e_ex30, e_ex31, e_ex32, e_add, e_sub, e_mul, e_quo, e_rem, e_and, e_or, e_xor, e_shl, e_shr, e_eql, e_neq, e_lss, e_leq, e_gtr, e_geq, e_beq, e_bne, e_peq1, e_peq2, e_pne1, e_pne2, e_zeq1, e_zeq2, e_zne1, e_zne2, e_feq1, e_fne1, e_feq2, e_fne2, e_seq, e_sne, e_ta1, e_ta2, Nat.zero_add, Nat.add_zero, Bool.not_true, Bool.not_false]
        refine ld1_r r1 (v := x.lst) rfl ?_
        refine hxl.ln ?_
        try simp only [e_fd, e_nck, e_pkt, e_pkf, e_gdtt, e_gdtf, e_gdft, e_gdff, e_ift, e_iff, e_not, e_ln, e_lnT, e_cp, e_cvi, e_ex20, e_ex21, e_ex30, e_ex31, e_ex32, e_add, e_sub, e_mul, e_quo, e_rem, e_and, e_or, e_xor, e_shl, e_shr, e_eql, e_neq, e_lss, e_leq, e_gtr, e_geq, e_beq, e_bne, e_peq1, e_peq2, e_pne1, e_pne2, e_zeq1, e_zeq2, e_zne1, e_zne2, e_feq1, e_fne1, e_feq2, e_fne2, e_seq, e_sne, e_ta1, e_ta2, Nat.zero_add, Nat.add_zero, Bool.not_true, Bool.not_false]
        rw [wrap64_id (by omega) (by omega)]
        by_cases h3 : 65536 < n + 1 + (x.s.size : Int) + ((kidsL W x).length : Int)
        · simp only [h3, decide_true, e_fd, e_nck, e_pkt, e_pkf, e_gdtt, e_gdtf, e_gdft, e_gdff, e_ift, e_iff, e_not, e_ln, e_lnT, e_cp, e_cvi, e_ex20, e_ex21, e_ex30, e_ex31, e_ex32, e_add, e_sub, e_mul, e_quo, e_rem, e_and, e_or, e_xor, e_shl, e_shr, e_eql, e_neq, e_lss, e_leq, e_gtr, e_geq, e_beq, e_bne, e_peq1, e_peq2, e_pne1, e_pne2, e_zeq1, e_zeq2, e_zne1, e_zne2, e_feq1, e_fne1, e_feq2, e_fne2, e_seq, e_sne, e_ta1, e_ta2, Nat.zero_add, Nat.add_zero, Bool.not_true, Bool.not_false]
          exact hK w1 _ hb1 (by omega) (by omega)
        · simp only [h3, decide_false, e_fd, e_nck, e_pkt, e_pkf, e_gdtt, e_gdtf, e_gdft, e_gdff, e_ift, e_iff, e_not, e_ln, e_lnT, e_cp, e_cvi, e_ex20, e_ex21, e_ex30, e_ex31, e_ex32, e_add, e_sub, e_mul, e_quo, e_rem, e_and, e_or, e_xor, e_shl, e_shr, e_eql, e_neq, e_lss, e_leq, e_gtr, e_geq, e_beq, e_bne, e_peq1, e_peq2, e_pne1, e_pne2, e_zeq1, e_zeq2, e_zne1, e_zne2, e_feq1, e_fne1, e_feq2, e_fne2, e_seq, e_sne, e_ta1, e_ta2, Nat.zero_add, Nat.add_zero, Bool.not_true, Bool.not_false]
          refine ⟨fun m l w' => ∃ (j : Nat) (r : Int), j ≤ (kidsL W x).length ∧ m = (kidsL W x).length - j ∧ l = [I r, .pointer (some ⟨b, 0, none⟩), I j] ∧ Kp (fun _ => False) w w' ∧ Row w' b 52 x.cells ∧ 0 ≤ r ∧ r ≤ 65536 ∧ n + 1 + ((((kidsL W x).take j).flatMap (wl W f)).length : Int) ≤ r,
            (kidsL W x).length, ⟨0, _, by omega, by omega, rfl, hb1, r1, by omega, by omega, by simp; omega⟩, ?_⟩
          rintro m l w2 ⟨j, r, hj, hm, rfl, hk2, r2, hr0, hr1, hcnt⟩
          rw [s38_p3_Fe]
          unfold s38_p2
          try simp only [e_fd, e_nck, e_pkt, e_pkf, e_gdtt, e_gdtf, e_gdft, e_gdff, e_ift, e_iff, e_not, e_ln, e_lnT, e_cp, e_cvi, e_ex20, e_ex21, e_ex30, e_ex31, e_ex32, e_add, e_sub, e_mul, e_quo, e_rem, e_and, e_or, e_xor, e_shl, e_shr, e_eql, e_neq, e_lss, e_leq, e_gtr, e_geq, e_beq, e_bne, e_peq1, e_peq2, e_pne1, e_pne2, e_zeq1, e_zeq2, e_zne1, e_zne2, e_feq1, e_fne1, e_feq2, e_fne2, e_seq, e_sne, e_ta1, e_ta2, Nat.zero_add, Nat.add_zero, Bool.not_true, Bool.not_false]
          refine ld1_r r2 (v := x.lst) rfl ?_
          refine hxl.ln ?_
          try simp only [e_fd, e_nck, e_pkt, e_pkf, e_gdtt, e_gdtf, e_gdft, e_gdff, e_ift, e_iff, e_not, e_ln, e_lnT, e_cp, e_cvi, e_ex20, e_ex21, e_ex30, e_ex31, e_ex32, e_add, e_sub, e_mul, e_quo, e_rem, e_and, e_or, e_xor, e_shl, e_shr, e_eql, e_neq, e_lss, e_leq, e_gtr, e_geq, e_beq, e_bne, e_peq1, e_peq2, e_pne1, e_pne2, e_zeq1, e_zeq2, e_zne1, e_zne2, e_feq1, e_fne1, e_feq2, e_fne2, e_seq, e_sne, e_ta1, e_ta2, Nat.zero_add, Nat.add_zero, Bool.not_true, Bool.not_false]
          by_cases hlt : j < (kidsL W x).length
          · have hlt' : (j : Int) < ((kidsL W x).length : Int) := by omega
            simp only [hlt', decide_true, e_fd, e_nck, e_pkt, e_pkf, e_gdtt, e_gdtf, e_gdft, e_gdff, e_ift, e_iff, e_not, e_ln, e_lnT, e_cp, e_cvi, e_ex20, e_ex21, e_ex30, e_ex31, e_ex32, e_add, e_sub, e_mul, e_quo, e_rem, e_and, e_or, e_xor, e_shl, e_shr, e_eql, e_neq, e_lss, e_leq, e_gtr, e_geq, e_beq, e_bne, e_peq1, e_peq2, e_pne1, e_pne2, e_zeq1, e_zeq2, e_zne1, e_zne2, e_feq1, e_fne1, e_feq2, e_fne2, e_seq, e_sne, e_ta1, e_ta2, Nat.zero_add, Nat.add_zero, Bool.not_true, Bool.not_false]
            have hb2 : Below W.heap.size W w2 := hbel.trans (hk2.below hbel.size (fun _ _ h => h))
            refine ld1_r r2 (v := x.lst) rfl ?_
            refine hxl.ix hlt fun b1 o1 hc1 => ?_
            refine (hc1.below hb2).ldn rfl ?_
            refine ih _ (hxk _ (List.getElem_mem hlt)) w2 r _ hb2 hr0 hr1 fun w3 r' hk3 hrr hcnt' => ?_
            try simp only [e_fd, e_nck, e_pkt, e_pkf, e_gdtt, e_gdtf, e_gdft, e_gdff, e_ift, e_iff, e_not, e_ln, e_lnT, e_cp, e_cvi, e_ex20, e_ex21, e_ex30, e_ex31, e_ex32, e_add, e_sub, e_mul, e_quo, e_rem, e_and, e_or, e_xor, e_shl, e_shr, e_eql, e_neq, e_lss, e_leq, e_gtr, e_geq, e_beq, e_bne, e_peq1, e_peq2, e_pne1, e_pne2, e_zeq1, e_zeq2, e_zne1, e_zne2, e_feq1, e_fne1, e_feq2, e_fne2, e_seq, e_sne, e_ta1, e_ta2, Nat.zero_add, Nat.add_zero, Bool.not_true, Bool.not_false]
            by_cases h4 : 65536 < r'
            · simp only [h4, decide_true, e_fd, e_nck, e_pkt, e_pkf, e_gdtt, e_gdtf, e_gdft, e_gdff, e_ift, e_iff, e_not, e_ln, e_lnT, e_cp, e_cvi, e_ex20, e_ex21, e_ex30, e_ex31, e_ex32, e_add, e_sub, e_mul, e_quo, e_rem, e_and, e_or, e_xor, e_shl, e_shr, e_eql, e_neq, e_lss, e_leq, e_gtr, e_geq, e_beq, e_bne, e_peq1, e_peq2, e_pne1, e_pne2, e_zeq1, e_zeq2, e_zne1, e_zne2, e_feq1, e_fne1, e_feq2, e_fne2, e_seq, e_sne, e_ta1, e_ta2, Nat.zero_add, Nat.add_zero, Bool.not_true, Bool.not_false]
              exact hK w3 r' (hk2.trans hk3) (by omega) (by omega)
            · simp only [h4, decide_false, e_fd, e_nck, e_pkt, e_pkf, e_gdtt, e_gdtf, e_gdft, e_gdff, e_ift, e_iff, e_not, e_ln, e_lnT, e_cp, e_cvi, e_ex20, e_ex21, e_ex30, e_ex31, e_ex32, e_add, e_sub, e_mul, e_quo, e_rem, e_and, e_or, e_xor, e_shl, e_shr, e_eql, e_neq, e_lss, e_leq, e_gtr, e_geq, e_beq, e_bne, e_peq1, e_peq2, e_pne1, e_pne2, e_zeq1, e_zeq2, e_zne1, e_zne2, e_feq1, e_fne1, e_feq2, e_fne2, e_seq, e_sne, e_ta1, e_ta2, Nat.zero_add, Nat.add_zero, Bool.not_true, Bool.not_false]
              rw [wrap64_id (by omega) (by omega)]
              have := hcnt' (by omega)
              refine ⟨(kidsL W x).length - (j + 1), by omega, j + 1, r', by omega, rfl, by simp, hk2.trans hk3, hk3.row' r2, by omega, by omega, ?_⟩
              rw [flat_take hlt, List.length_append]
              omega
          · have hlt' : ¬ (j : Int) < ((kidsL W x).length : Int) := by omega
            simp only [hlt', decide_false, e_fd, e_nck, e_pkt, e_pkf, e_gdtt, e_gdtf, e_gdft, e_gdff, e_ift, e_iff, e_not, e_ln, e_lnT, e_cp, e_cvi, e_ex20, e_ex21, e_ex30, e_ex31, e_ex32, e_add, e_sub, e_mul, e_quo, e_rem, e_and, e_or, e_xor, e_shl, e_shr, e_eql, e_neq, e_lss, e_leq, e_gtr, e_geq, e_beq, e_bne, e_peq1, e_peq2, e_pne1, e_pne2, e_zeq1, e_zeq2, e_zne1, e_zne2, e_feq1, e_fne1, e_feq2, e_fne2, e_seq, e_sne, e_ta1, e_ta2, Nat.zero_add, Nat.add_zero, Bool.not_true, Bool.not_false]
            unfold s38_p1
            rw [List.take_of_length_le (by omega)] at hcnt
            exact hK w2 r hk2 (by omega) (by omega)

/-! ### the script -/
/-- what the guard reads of a step -/
structure Rc where
  cs : List Value
  g : ByteArray
  id : ByteArray
  lbv : Value
  lbs : List ByteArray
  ty : ByteArray
  s1 : ByteArray
  s2 : ByteArray
  d1 : ByteArray
  d2 : ByteArray
  pv : Value
  ps : List Pr
  dn : Nat
  da : Option Addr
  dc : Nat
def bl (s : ByteArray) : List Value := [.string s]
def SAt (W : World) (v : Value) (ss : List ByteArray) : Prop :=
  (v = .slice none 0 0 ∧ ss = []) ∨ ∃ (a : Addr) (cap : Nat), v = .slice (some a) ss.length cap ∧ ss.length ≤ 140737488351232 ∧ ∀ j (h : j < ss.length), ss[j].size ≤ 140737488351232 ∧ ∃ b o, a.add (j * 1) = ⟨b, o, none⟩ ∧ Cells W b o (bl ss[j])
def i64r (x : Int) : Prop := -9223372036854775808 ≤ x ∧ x ≤ 9223372036854775807
structure RcOk (W : World) (F : Nat) (x : Rc) : Prop where
  len : x.cs.length = 20
  sc : x.cs.all scal = true
  c9 : x.cs[9]? = some (.string x.g)
  c10 : x.cs[10]? = some (.string x.id)
  c11 : x.cs[11]? = some x.lbv
  c12 : x.cs[12]? = some (.string x.ty)
  c13 : x.cs[13]? = some (.string x.s1)
  c14 : x.cs[14]? = some (.string x.s2)
  c15 : x.cs[15]? = some (.string x.d1)
  c16 : x.cs[16]? = some (.string x.d2)
  c17 : x.cs[17]? = some x.pv
  c19 : x.cs[19]? = some (.slice x.da x.dn x.dc)
  z9 : x.g.size ≤ 140737488351232
  z10 : x.id.size ≤ 140737488351232
  z12 : x.ty.size ≤ 140737488351232
  z13 : x.s1.size ≤ 140737488351232
  z14 : x.s2.size ≤ 140737488351232
  z15 : x.d1.size ≤ 140737488351232
  z16 : x.d2.size ≤ 140737488351232
  z19 : x.dn ≤ 140737488351232
  lb : SAt W x.lbv x.lbs
  pr : PAt W x.pv x.ps
  pz : ∀ p ∈ x.ps, p.1.size ≤ 140737488351232 ∧ VOk W F p.2
  loc : ∃ a b c d k : Int, x.cs[5]? = some (I a) ∧ x.cs[6]? = some (I b) ∧ x.cs[7]? = some (I c) ∧ x.cs[8]? = some (I d) ∧ x.cs[18]? = some (.int .u8 k) ∧ i64r a ∧ i64r b ∧ i64r c ∧ i64r d ∧ (0 ≤ k ∧ k ≤ 255)
def Scr (W : World) (F : Nat) (v : Value) (xs : List Rc) : Prop :=
  (∀ x ∈ xs, RcOk W F x) ∧ ((v = .slice none 0 0 ∧ xs = []) ∨ ∃ (a : Addr) (cap : Nat), v = .slice (some a) xs.length cap ∧ xs.length ≤ 140737488351232 ∧ ∀ j (h : j < xs.length), ∃ b o, a.add (j * 20) = ⟨b, o, none⟩ ∧ Cells W b o xs[j].cs)
section
variable {W w : World} {F : Nat} {v : Value} {xs : List Rc} {ss : List ByteArray} {K : Value → World → Prop}
theorem Scr.ln (h : Scr W F v xs) (hK : K (I xs.length) w) : lnS v K w := by
  rcases h.2 with ⟨rfl, rfl⟩ | ⟨a, cap, rfl, _⟩
  · exact hK
  · exact hK
theorem Scr.len (h : Scr W F v xs) : xs.length ≤ 140737488351232 := by
  rcases h.2 with ⟨rfl, rfl⟩ | ⟨a, cap, rfl, h, _⟩
  · simp
  · exact h
theorem Scr.ix (h : Scr W F v xs) {j : Nat} (hj : j < xs.length) (hK : ∀ b o, Cells W b o xs[j].cs → K (.pointer (some ⟨b, o, none⟩)) w) : ixs 20 v (I j) K w := by
  rcases h.2 with ⟨rfl, rfl⟩ | ⟨a, cap, rfl, _, h⟩
  · simp at hj
  · refine ⟨⟨by omega, by omega⟩, ?_⟩
    have ej : ((j : Int)).toNat = j := by omega
    obtain ⟨b, o, e, hc⟩ := h j hj
    rw [ej, e]
    exact hK b o hc
theorem SAt.ln (h : SAt W v ss) (hK : K (I ss.length) w) : lnS v K w := by
  rcases h with ⟨rfl, rfl⟩ | ⟨a, cap, rfl, _⟩
  · exact hK
  · exact hK
theorem SAt.len (h : SAt W v ss) : ss.length ≤ 140737488351232 := by
  rcases h with ⟨rfl, rfl⟩ | ⟨a, cap, rfl, h, _⟩
  · simp
  · exact h
theorem SAt.ix (h : SAt W v ss) {j : Nat} (hj : j < ss.length) (hK : ∀ b o, Cells W b o (bl ss[j]) → ss[j].size ≤ 140737488351232 → K (.pointer (some ⟨b, o, none⟩)) w) : ixs 1 v (I j) K w := by
  rcases h with ⟨rfl, rfl⟩ | ⟨a, cap, rfl, _, h⟩
  · simp at hj
  · refine ⟨⟨by omega, by omega⟩, ?_⟩
    have ej : ((j : Int)).toNat = j := by omega
    obtain ⟨hz, b, o, e, hc⟩ := h j hj
    rw [ej, e]
    exact hK b o hc hz
end
end Go.Proofs.Qxb6500894aDoor
