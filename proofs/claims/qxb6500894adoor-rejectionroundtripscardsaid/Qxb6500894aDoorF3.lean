import Derived.Test.Qxb6500894aDoorF2
namespace Go.Proofs.Qxb6500894aDoor
open Go.Sh Go.RowKit
set_option linter.unusedVariables false
set_option linter.unusedSimpArgs false

theorem uvF_last : ∀ {f x : Nat} {z : Int}, x < 128 ^ (f + 1) → 1 < (uvF (f + 1) x).length → (uvF (f + 1) x)[(uvF (f + 1) x).length - 1]? = some z → z ≠ 0
  | 0, x, z, hx, hl, hz => by
    rw [show (128 : Nat) ^ (0 + 1) = 128 from rfl] at hx
    rw [uvF_small hx] at hl
    simp at hl
  | f + 1, x, z, hx, hl, hz => by
    by_cases h : x < 128
    · rw [uvF_small h] at hl; simp at hl
    · rw [uvF_big h] at hz hl
      rw [List.length_cons] at hz hl
      have hp := uvF_pos (f := f) (x := x / 128)
      rw [Nat.add_sub_cancel, show (uvF (f + 1) (x / 128)).length = ((uvF (f + 1) (x / 128)).length - 1) + 1 by omega, List.getElem?_cons_succ] at hz
      by_cases h2 : x / 128 < 128
      · rw [uvF_small h2] at hz
        have : z = ((x / 128 : Nat) : Int) := by simpa using hz.symm
        omega
      · refine uvF_last (x := x / 128) ?_ ?_ hz
        · rw [Nat.pow_succ] at hx
          exact Nat.div_lt_of_lt_mul (by rw [Nat.mul_comm]; exact hx)
        · rw [uvF_big h2, List.length_cons]
          cases f with
          | zero =>
            exfalso
            rw [show (128 : Nat) ^ (0 + 1 + 1) = 16384 from rfl] at hx
            omega
          | succ f =>
            have := uvF_pos (f := f) (x := x / 128 / 128)
            omega
theorem wrap64 (n : Int) : IntKind.i64.wrap n = (n + 9223372036854775808) % 18446744073709551616 - 9223372036854775808 := by
  have e : (2 ^ IntKind.i64.bits : Int) = 18446744073709551616 := by decide
  have e' : (2 ^ (IntKind.i64.bits - 1) : Int) = 9223372036854775808 := by decide
  unfold IntKind.wrap
  rw [e, e']
  simp only [IntKind.signed, Bool.true_and]
  split <;> rename_i h1 <;> simp only [decide_eq_true_eq] at h1 <;> omega
/-- a number out of its sign and size -/
theorem unzz {x : Int} (h0 : -9223372036854775808 ≤ x) (h1 : x ≤ 9223372036854775807) : IntKind.i64.wrap (BitVec.ofInt IntKind.i64.bits ((zz x / 2 : Nat) : Int) ^^^ BitVec.ofInt IntKind.i64.bits (-((zz x % 2 : Nat) : Int))).toNat = x := by
  have e2 : IntKind.i64.bits = 64 := rfl
  have hz := zz_lt h0 h1
  rw [e2]
  by_cases hx : 0 ≤ x
  · have e3 : zz x = (2 * x).toNat := by unfold zz; rw [if_pos hx]
    have e4 : zz x % 2 = 0 := by omega
    rw [e4, show BitVec.ofInt 64 (-((0 : Nat) : Int)) = 0#64 from by decide, BitVec.xor_zero, of_q (by omega), wrap64]
    omega
  · have e3 : zz x = (-2 * x - 1).toNat := by unfold zz; rw [if_neg hx]
    have e4 : zz x % 2 = 1 := by omega
    rw [e4, show BitVec.ofInt 64 (-((1 : Nat) : Int)) = BitVec.allOnes 64 from by decide, BitVec.xor_allOnes, BitVec.toNat_not, of_q (by omega), wrap64]
    omega
/-- the decoder in memory: nothing bad so far, xs is left -/
structure Dc (w : World) (db eb : Nat) (rv : Value) (xs : List Int) : Prop where
  row : Row w db 122 [rv, .bool false]
  vs : Vs U8 w rv xs
  blk : ∀ a l c, rv = .slice (some a) l c → a.block = eb
  ne : eb ≠ db
section
variable {W w w' w2 : World} {v t0 rv : Value} {ob : Option Nat} {xs ys rest : List Int} {K : Value → World → Prop} {B1 : List Value → World → Prop} {f i n db eb : Nat} {kk : World → Prop}
theorem Dc.scal (h : Dc w db eb rv xs) : Go.Sh.scal rv = true := by
  rcases h.vs with ⟨rfl, _⟩ | ⟨a, cap, rfl, _⟩ | ⟨b, o, cap, rfl, _⟩ <;> rfl
theorem Dc.kp' (h : Dc w db eb rv xs) (hk : Kp (fun _ => False) w w') : Dc w' db eb rv xs := ⟨hk.row' h.row, h.vs.kp' hk, h.blk, h.ne⟩
theorem Dc.drop (h : Dc w db eb rv xs) {ii : Int} (hii : ii = (n : Int)) (hn : n ≤ xs.length) (h0 : 0 < xs.length) (hK : ∀ rv', (∀ w2, Vs U8 w2 rv xs → Vs U8 w2 rv' (xs.drop n)) → (∀ a l c, rv' = .slice (some a) l c → a.block = eb) → Go.Sh.scal rv' = true → K rv' w2) : sls 1 rv (some (.int .i64 ii)) none K w2 := by
  subst hii
  have hb := h.blk
  rcases h.vs with ⟨rfl, rfl⟩ | ⟨a, cap, rfl, rfl⟩ | ⟨b, o, cap, rfl, h1, h2, hc⟩
  · simp at h0
  · simp at h0
  · refine ⟨⟨by omega, by omega, by omega⟩, ?_⟩
    have hbe : b = eb := hb _ _ _ rfl
    have e0 : ((n : Int)).toNat = n := by omega
    simp only [e0]
    have hlen : (xs.drop n).length = xs.length - n := List.length_drop
    refine hK _ (fun w2 h2' => ?_) (fun a l c e => ?_) rfl
    · by_cases hz : xs.length - n = 0
      · have hd : xs.drop n = [] := List.eq_nil_of_length_eq_zero (by omega)
        rw [hd]
        refine .inr (.inl ?_)
        have hl0 : ((xs.length : Int)).toNat - n = 0 := by omega
        by_cases hcn : cap = n
        · rw [if_pos hcn]; exact ⟨⟨b, o, none⟩, cap - n, by rw [hl0], rfl⟩
        · rw [if_neg hcn]; exact ⟨(⟨b, o, none⟩ : Addr).add (n * 1), cap - n, by rw [hl0]; rfl, rfl⟩
      · rw [if_neg (by omega), Option.map_some, add_mk, Nat.mul_one]
        rcases h2' with ⟨q, _⟩ | ⟨a', c', q1, q2⟩ | ⟨b', o', c', q1, _, _, q4⟩
        · cases q
        · rw [q2] at hz; simp at hz
        · cases q1
          refine .inr (.inr ⟨b, o + n, cap - n, by rw [hlen]; congr 1, by omega, by omega, ?_⟩)
          intro j hj
          rw [List.length_map, hlen] at hj
          rw [Nat.add_assoc, q4 (n + j) (by rw [List.length_map]; omega), List.getElem?_map, List.getElem?_map, List.getElem?_drop]
    · by_cases hcn : cap = n
      · rw [if_pos hcn] at e; cases e; exact hbe
      · rw [if_neg hcn, Option.map_some, add_mk] at e; cases e; exact hbe
/-- the rest is moved on -/
theorem Dc.set (h : Dc w db eb rv xs) {rv' : Value} (h1 : ∀ w2, Vs U8 w2 rv xs → Vs U8 w2 rv' ys) (h2 : ∀ a l c, rv' = .slice (some a) l c → a.block = eb) (h3 : Go.Sh.scal rv' = true) (hK : ∀ w', Dc w' db eb rv' ys → Kp (fun k => k = db) w w' → kk w') : st1 (.pointer (some ⟨db, 0, none⟩)) rv' kk w := by
  refine st1_r h.row (show 0 < 2 by decide) h3 fun w1 r1 hk1 hz1 => ?_
  refine hK w1 ⟨r1, h1 w1 (h.vs.kp hk1 (fun b o c _ e (q : b = db) => ?_)), h2, h.ne⟩ hk1
  have := h.blk _ _ _ e
  exact h.ne (this.symm.trans q)
theorem byte_ok {x : Int} (h : Dc w db eb rv (x :: rest)) (hK : ∀ w' rv', Dc w' db eb rv' rest → Kp (fun k => k = db) w w' → K (U8 x) w') : cl Tryd.prog 54 #[.pointer (some ⟨db, 0, none⟩)] K w := by
  have hlen := h.vs.len
  apply c54
  unfold s54_p1
  try simp only [e_fd, e_nck, e_pkt, e_pkf, e_gdtt, e_gdtf, e_gdft, e_gdff, e_ift, e_iff, e_not, e_ln, e_lnT, e_cp, e_cvi, e_ex20, e_ex21, e_ex30, e_ex31, e_ex32, e_add, e_sub, e_mul, e_quo, e_rem, e_and, e_or, e_xor, e_shl, e_shr, e_eql, e_neq, e_lss, e_leq, e_gtr, e_geq, e_beq, e_bne, e_peq1, e_peq2, e_pne1, e_pne2, e_zeq1, e_zeq2, e_zne1, e_zne2, e_feq1, e_fne1, e_feq2, e_fne2, e_seq, e_sne, e_ta1, e_ta2, Nat.zero_add, Nat.add_zero, Bool.not_true, Bool.not_false]
  refine ld1_r h.row rfl ?_
  refine h.vs.ln ?_
  have e : ((((x :: rest).length : Nat) : Int) == 0) = false := by rw [beq_eq_false_iff_ne, List.length_cons]; omega
  simp only [e, e_fd, e_nck, e_pkt, e_pkf, e_gdtt, e_gdtf, e_gdft, e_gdff, e_ift, e_iff, e_not, e_ln, e_lnT, e_cp, e_cvi, e_ex20, e_ex21, e_ex30, e_ex31, e_ex32, e_add, e_sub, e_mul, e_quo, e_rem, e_and, e_or, e_xor, e_shl, e_shr, e_eql, e_neq, e_lss, e_leq, e_gtr, e_geq, e_beq, e_bne, e_peq1, e_peq2, e_pne1, e_pne2, e_zeq1, e_zeq2, e_zne1, e_zne2, e_feq1, e_fne1, e_feq2, e_fne2, e_seq, e_sne, e_ta1, e_ta2, Nat.zero_add, Nat.add_zero, Bool.not_true, Bool.not_false]
  refine ld1_r h.row rfl ?_
  refine h.vs.ix (i := 0) (by simp) fun b' q' hld => hld _ ?_
  try simp only [e_fd, e_nck, e_pkt, e_pkf, e_gdtt, e_gdtf, e_gdft, e_gdff, e_ift, e_iff, e_not, e_ln, e_lnT, e_cp, e_cvi, e_ex20, e_ex21, e_ex30, e_ex31, e_ex32, e_add, e_sub, e_mul, e_quo, e_rem, e_and, e_or, e_xor, e_shl, e_shr, e_eql, e_neq, e_lss, e_leq, e_gtr, e_geq, e_beq, e_bne, e_peq1, e_peq2, e_pne1, e_pne2, e_zeq1, e_zeq2, e_zne1, e_zne2, e_feq1, e_fne1, e_feq2, e_fne2, e_seq, e_sne, e_ta1, e_ta2, Nat.zero_add, Nat.add_zero, Bool.not_true, Bool.not_false]
  refine ld1_r h.row rfl ?_
  refine h.drop (n := 1) rfl (by simp) (by simp) fun rv1 a1 a2 a3 => ?_
  try simp only [e_fd, e_nck, e_pkt, e_pkf, e_gdtt, e_gdtf, e_gdft, e_gdff, e_ift, e_iff, e_not, e_ln, e_lnT, e_cp, e_cvi, e_ex20, e_ex21, e_ex30, e_ex31, e_ex32, e_add, e_sub, e_mul, e_quo, e_rem, e_and, e_or, e_xor, e_shl, e_shr, e_eql, e_neq, e_lss, e_leq, e_gtr, e_geq, e_beq, e_bne, e_peq1, e_peq2, e_pne1, e_pne2, e_zeq1, e_zeq2, e_zne1, e_zne2, e_feq1, e_fne1, e_feq2, e_fne2, e_seq, e_sne, e_ta1, e_ta2, Nat.zero_add, Nat.add_zero, Bool.not_true, Bool.not_false]
  exact h.set (ys := rest) a1 a2 a3 fun w1 d1 hk1 => hK w1 rv1 d1 hk1
theorem uvarintM_ok {x : Nat} (hx : x < 18446744073709551616) (h : Dc w db eb rv (uv x ++ rest)) (hrl : rest.length ≤ 1000000000) (hK : ∀ w' rv', Dc w' db eb rv' rest → Kp (fun k => k = db) w w' → K (.int .u64 (x : Nat)) w') : cl Tryd.prog 77 #[.pointer (some ⟨db, 0, none⟩)] K w := by
  have hul : (uv x).length ≤ 10 := uvF_len
  have hup : 0 < (uv x).length := uvF_pos
  have hll : (uv x ++ rest).length = (uv x).length + rest.length := List.length_append
  have hp10 : x < 128 ^ (9 + 1) := by
    have : (128 : Nat) ^ (9 + 1) = 1180591620717411303424 := by decide
    omega
  apply c77
  unfold s77_p1
  try simp only [e_fd, e_nck, e_pkt, e_pkf, e_gdtt, e_gdtf, e_gdft, e_gdff, e_ift, e_iff, e_not, e_ln, e_lnT, e_cp, e_cvi, e_ex20, e_ex21, e_ex30, e_ex31, e_ex32, e_add, e_sub, e_mul, e_quo, e_rem, e_and, e_or, e_xor, e_shl, e_shr, e_eql, e_neq, e_lss, e_leq, e_gtr, e_geq, e_beq, e_bne, e_peq1, e_peq2, e_pne1, e_pne2, e_zeq1, e_zeq2, e_zne1, e_zne2, e_feq1, e_fne1, e_feq2, e_fne2, e_seq, e_sne, e_ta1, e_ta2, Nat.zero_add, Nat.add_zero, Bool.not_true, Bool.not_false]
  refine ld1_r h.row rfl ?_
  refine uvarint_ok hx h.vs hrl ?_
  try simp only [e_fd, e_nck, e_pkt, e_pkf, e_gdtt, e_gdtf, e_gdft, e_gdff, e_ift, e_iff, e_not, e_ln, e_lnT, e_cp, e_cvi, e_ex20, e_ex21, e_ex30, e_ex31, e_ex32, e_add, e_sub, e_mul, e_quo, e_rem, e_and, e_or, e_xor, e_shl, e_shr, e_eql, e_neq, e_lss, e_leq, e_gtr, e_geq, e_beq, e_bne, e_peq1, e_peq2, e_pne1, e_pne2, e_zeq1, e_zeq2, e_zne1, e_zne2, e_feq1, e_fne1, e_feq2, e_fne2, e_seq, e_sne, e_ta1, e_ta2, Nat.zero_add, Nat.add_zero, Bool.not_true, Bool.not_false]
  have fin : sls 1 rv (some (I ((uv x).length : Nat))) none (fun t42 w => st1 (.pointer (some ⟨db, 0, none⟩)) t42 (fun w => K (.int .u64 (x : Nat)) w) w) w := by
    refine h.drop (n := (uv x).length) rfl (by omega) (by omega) fun rv1 a1 a2 a3 => ?_
    refine h.set (ys := rest) (fun w2 hv => by have := a1 w2 hv; rw [List.drop_left] at this; exact this) a2 a3 fun w1 d1 hk1 => hK w1 rv1 d1 hk1
  have e0 : ¬ (((uv x).length : Nat) : Int) ≤ 0 := by omega
  simp only [e0, decide_false, e_fd, e_nck, e_pkt, e_pkf, e_gdtt, e_gdtf, e_gdft, e_gdff, e_ift, e_iff, e_not, e_ln, e_lnT, e_cp, e_cvi, e_ex20, e_ex21, e_ex30, e_ex31, e_ex32, e_add, e_sub, e_mul, e_quo, e_rem, e_and, e_or, e_xor, e_shl, e_shr, e_eql, e_neq, e_lss, e_leq, e_gtr, e_geq, e_beq, e_bne, e_peq1, e_peq2, e_pne1, e_pne2, e_zeq1, e_zeq2, e_zne1, e_zne2, e_feq1, e_fne1, e_feq2, e_fne2, e_seq, e_sne, e_ta1, e_ta2, Nat.zero_add, Nat.add_zero, Bool.not_true, Bool.not_false]
  by_cases h1 : 1 < (uv x).length
  · have e1 : (1 : Int) < (((uv x).length : Nat) : Int) := by omega
    simp only [e1, decide_true, e_fd, e_nck, e_pkt, e_pkf, e_gdtt, e_gdtf, e_gdft, e_gdff, e_ift, e_iff, e_not, e_ln, e_lnT, e_cp, e_cvi, e_ex20, e_ex21, e_ex30, e_ex31, e_ex32, e_add, e_sub, e_mul, e_quo, e_rem, e_and, e_or, e_xor, e_shl, e_shr, e_eql, e_neq, e_lss, e_leq, e_gtr, e_geq, e_beq, e_bne, e_peq1, e_peq2, e_pne1, e_pne2, e_zeq1, e_zeq2, e_zne1, e_zne2, e_feq1, e_fne1, e_feq2, e_fne2, e_seq, e_sne, e_ta1, e_ta2, Nat.zero_add, Nat.add_zero, Bool.not_true, Bool.not_false]
    refine ld1_r h.row rfl ?_
    try simp only [e_fd, e_nck, e_pkt, e_pkf, e_gdtt, e_gdtf, e_gdft, e_gdff, e_ift, e_iff, e_not, e_ln, e_lnT, e_cp, e_cvi, e_ex20, e_ex21, e_ex30, e_ex31, e_ex32, e_add, e_sub, e_mul, e_quo, e_rem, e_and, e_or, e_xor, e_shl, e_shr, e_eql, e_neq, e_lss, e_leq, e_gtr, e_geq, e_beq, e_bne, e_peq1, e_peq2, e_pne1, e_pne2, e_zeq1, e_zeq2, e_zne1, e_zne2, e_feq1, e_fne1, e_feq2, e_fne2, e_seq, e_sne, e_ta1, e_ta2, Nat.zero_add, Nat.add_zero, Bool.not_true, Bool.not_false]
    rw [wrap64_id (by omega) (by omega), show (((uv x).length : Nat) : Int) - 1 = (((uv x).length - 1 : Nat) : Int) by omega]
    have hil : (uv x).length - 1 < (uv x ++ rest).length := by omega
    refine h.vs.ix (i := (uv x).length - 1) hil fun b' q' hld => ?_
    try simp only [e_fd, e_nck, e_pkt, e_pkf, e_gdtt, e_gdtf, e_gdft, e_gdff, e_ift, e_iff, e_not, e_ln, e_lnT, e_cp, e_cvi, e_ex20, e_ex21, e_ex30, e_ex31, e_ex32, e_add, e_sub, e_mul, e_quo, e_rem, e_and, e_or, e_xor, e_shl, e_shr, e_eql, e_neq, e_lss, e_leq, e_gtr, e_geq, e_beq, e_bne, e_peq1, e_peq2, e_pne1, e_pne2, e_zeq1, e_zeq2, e_zne1, e_zne2, e_feq1, e_fne1, e_feq2, e_fne2, e_seq, e_sne, e_ta1, e_ta2, Nat.zero_add, Nat.add_zero, Bool.not_true, Bool.not_false]
    refine hld _ ?_
    have hne : (uv x ++ rest)[(uv x).length - 1] ≠ 0 := by
      refine uvF_last (f := 9) hp10 h1 ?_
      show (uv x)[(uv x).length - 1]? = _
      rw [List.getElem?_eq_getElem (by omega), List.getElem_append_left (by omega)]
    have e2 : ((uv x ++ rest)[(uv x).length - 1] == 0) = false := by rw [beq_eq_false_iff_ne]; exact hne
    simp only [e2, e_fd, e_nck, e_pkt, e_pkf, e_gdtt, e_gdtf, e_gdft, e_gdff, e_ift, e_iff, e_not, e_ln, e_lnT, e_cp, e_cvi, e_ex20, e_ex21, e_ex30, e_ex31, e_ex32, e_add, e_sub, e_mul, e_quo, e_rem, e_and, e_or, e_xor, e_shl, e_shr, e_eql, e_neq, e_lss, e_leq, e_gtr, e_geq, e_beq, e_bne, e_peq1, e_peq2, e_pne1, e_pne2, e_zeq1, e_zeq2, e_zne1, e_zne2, e_feq1, e_fne1, e_feq2, e_fne2, e_seq, e_sne, e_ta1, e_ta2, Nat.zero_add, Nat.add_zero, Bool.not_true, Bool.not_false]
    refine ld1_r h.row rfl ?_
    exact fin
  · have e1 : ¬ (1 : Int) < (((uv x).length : Nat) : Int) := by omega
    simp only [e1, decide_false, e_fd, e_nck, e_pkt, e_pkf, e_gdtt, e_gdtf, e_gdft, e_gdff, e_ift, e_iff, e_not, e_ln, e_lnT, e_cp, e_cvi, e_ex20, e_ex21, e_ex30, e_ex31, e_ex32, e_add, e_sub, e_mul, e_quo, e_rem, e_and, e_or, e_xor, e_shl, e_shr, e_eql, e_neq, e_lss, e_leq, e_gtr, e_geq, e_beq, e_bne, e_peq1, e_peq2, e_pne1, e_pne2, e_zeq1, e_zeq2, e_zne1, e_zne2, e_feq1, e_fne1, e_feq2, e_fne2, e_seq, e_sne, e_ta1, e_ta2, Nat.zero_add, Nat.add_zero, Bool.not_true, Bool.not_false]
    refine ld1_r h.row rfl ?_
    exact fin
theorem varint_ok {x : Int} (h0 : -9223372036854775808 ≤ x) (h1 : x ≤ 9223372036854775807) (h : Dc w db eb rv (uv (zz x) ++ rest)) (hrl : rest.length ≤ 1000000000) (hK : ∀ w' rv', Dc w' db eb rv' rest → Kp (fun k => k = db) w w' → K (I x) w') : cl Tryd.prog 76 #[.pointer (some ⟨db, 0, none⟩)] K w := by
  have hz := zz_lt h0 h1
  apply c76
  unfold s76_p1
  refine uvarintM_ok hz h hrl fun w1 rv1 d1 hk1 => ?_
  try simp only [e_fd, e_nck, e_pkt, e_pkf, e_gdtt, e_gdtf, e_gdft, e_gdff, e_ift, e_iff, e_not, e_ln, e_lnT, e_cp, e_cvi, e_ex20, e_ex21, e_ex30, e_ex31, e_ex32, e_add, e_sub, e_mul, e_quo, e_rem, e_and, e_or, e_xor, e_shl, e_shr, e_eql, e_neq, e_lss, e_leq, e_gtr, e_geq, e_beq, e_bne, e_peq1, e_peq2, e_pne1, e_pne2, e_zeq1, e_zeq2, e_zne1, e_zne2, e_feq1, e_fne1, e_feq2, e_fne2, e_seq, e_sne, e_ta1, e_ta2, Nat.zero_add, Nat.add_zero, Bool.not_true, Bool.not_false]
  refine ⟨by decide, ?_⟩
  have e1 : ((zz x : Nat) : Int).fdiv (2 ^ (min ((1 : Int)).toNat IntKind.u64.bits)) = ((zz x / 2 : Nat) : Int) := by
    rw [show (2 ^ (min ((1 : Int)).toNat IntKind.u64.bits) : Int) = 2 from by decide, Int.fdiv_eq_ediv_of_nonneg _ (by decide)]
    omega
  have e2 : IntKind.u64.wrap (BitVec.ofInt IntKind.u64.bits ((zz x : Nat) : Int) &&& BitVec.ofInt IntKind.u64.bits 1).toNat = ((zz x % 2 : Nat) : Int) := by
    have e : IntKind.u64.bits = 64 := rfl
    rw [e, BitVec.toNat_and, of_q (by omega), show (1 : Int) = ((1 : Nat) : Int) from rfl, of_q (by decide), show (1 : Nat) = 2 ^ 1 - 1 from rfl, Nat.and_two_pow_sub_one_eq_mod, wrapu64]
    omega
  rw [e1, e2, wrap64_id (n := ((zz x / 2 : Nat) : Int)) (by omega) (by omega), wrap64_id (n := ((zz x % 2 : Nat) : Int)) (by omega) (by omega)]
  have e3 : IntKind.i64.wrap (0 - ((zz x % 2 : Nat) : Int)) = -((zz x % 2 : Nat) : Int) := by rw [wrap64_id (by omega) (by omega)]; omega
  show boI .xor (I ((zz x / 2 : Nat) : Int)) (I (IntKind.i64.wrap (0 - ((zz x % 2 : Nat) : Int)))) _ w1
  rw [e3]
  try simp only [e_fd, e_nck, e_pkt, e_pkf, e_gdtt, e_gdtf, e_gdft, e_gdff, e_ift, e_iff, e_not, e_ln, e_lnT, e_cp, e_cvi, e_ex20, e_ex21, e_ex30, e_ex31, e_ex32, e_add, e_sub, e_mul, e_quo, e_rem, e_and, e_or, e_xor, e_shl, e_shr, e_eql, e_neq, e_lss, e_leq, e_gtr, e_geq, e_beq, e_bne, e_peq1, e_peq2, e_pne1, e_pne2, e_zeq1, e_zeq2, e_zne1, e_zne2, e_feq1, e_fne1, e_feq2, e_fne2, e_seq, e_sne, e_ta1, e_ta2, Nat.zero_add, Nat.add_zero, Bool.not_true, Bool.not_false]
  rw [unzz h0 h1]
  exact hK w1 rv1 d1 hk1
end
end Go.Proofs.Qxb6500894aDoor
