import Derived.Test.Qxb6500898aV23
import Derived.Test.Qxb6500898aL7
namespace Go.Proofs.Qxb6500898a
open Go.Sh Go.RowKit
set_option linter.unusedVariables false
set_option linter.unusedSimpArgs false

/-- the octets of a number, least first -/
def dig (z : Int) (n : Nat) : List Int := (List.range n).map fun i => z / 256 ^ i % 256
section
variable {W w w' w0 w2 : World} {v d t wv rv dv t0 t1 : Value} {ob wob wob0 : Option Nat} {mb b e m n i k : Nat} {xs ys zs pr da X Y : List Int} {K : Value → World → Prop} {B1 : List Value → World → Prop} {S S' : Nat → Prop} {L : List Value} {q c z : Int} {little : Bool}
theorem dig_len : (dig z n).length = n := by simp [dig]
theorem dig_by : By (dig z n) := by
  intro x hx
  unfold dig at hx
  obtain ⟨i, _, rfl⟩ := List.mem_map.1 hx
  omega
theorem dig_succ : dig z (n + 1) = dig z n ++ [z / 256 ^ n % 256] := by unfold dig; rw [List.range_succ, List.map_append]; rfl
def digE (little : Bool) (z : Int) (n : Nat) : List Int := if little then dig z n else (dig z n).reverse
theorem digE_len : (digE little z n).length = n := by unfold digE; split; exact dig_len; rw [List.length_reverse]; exact dig_len
theorem digE_by : By (digE little z n) := by unfold digE; split; exact dig_by; exact fun x hx => dig_by x (List.mem_reverse.1 hx)
theorem digE_enc {width : Int} (hw : Wid width) : digE little z width.toNat = enc width little z := by
  have h1 : dig z width.toNat = enc width true z := by
    rcases hw with rfl | rfl | rfl
    · show [z / 256 ^ 0 % 256, z / 256 ^ 1 % 256] = [z % 256, z / 256 % 256]
      simp only [Int.reducePow, Int.ediv_one]
    · show [z / 256 ^ 0 % 256, z / 256 ^ 1 % 256, z / 256 ^ 2 % 256, z / 256 ^ 3 % 256] = [z % 256, z / 256 % 256, z / 65536 % 256, z / 16777216 % 256]
      simp only [Int.reducePow, Int.ediv_one]
    · show [z / 256 ^ 0 % 256, z / 256 ^ 1 % 256, z / 256 ^ 2 % 256, z / 256 ^ 3 % 256, z / 256 ^ 4 % 256, z / 256 ^ 5 % 256, z / 256 ^ 6 % 256, z / 256 ^ 7 % 256] = [z % 256, z / 256 % 256, z / 65536 % 256, z / 16777216 % 256, z / 4294967296 % 256, z / 4294967296 / 256 % 256, z / 4294967296 / 65536 % 256, z / 4294967296 / 16777216 % 256]
      simp only [Int.reducePow, Int.ediv_one]
      congr 5
      congr 1
      · omega
      congr 1
      · omega
      congr 1
      · omega
  unfold digE
  cases little with
  | true => rw [if_pos rfl, h1]
  | false => rw [if_neg (by decide), h1, ← enc_rev hw]
theorem digits_ok (hz : 0 ≤ z ∧ z ≤ 18446744073709551615) (hn : n ≤ 100) (hK : ∀ w' b, Row w' b 5 ((digE little z n).map U8) → w.heap.size ≤ b → Kp (fun _ => False) w w' → K (sv b 0 n n) w') : cl Try.prog 23 #[.int .u64 z, I (n : Nat), .bool little] K w := by
  apply c23
  unfold s23_p5
  refine mks_r (n := n) (by omega) (by omega) fun w1 r1 hk1 hz1 => ?_
  have hp : ∀ i : Nat, (0 : Int) < 256 ^ i := fun i => pw_pos i
  unfold s23_p4
  refine ⟨fun m l w' => ∃ i : Nat, m + i = n ∧ l = [.int .u64 (z / 256 ^ i), I (n : Nat), .bool little, sv w.heap.size 0 n n, I (i : Nat)] ∧ Row w' w.heap.size 5 ((if little then dig z i ++ List.replicate (n - i) 0 else List.replicate (n - i) 0 ++ (dig z i).reverse).map U8) ∧ Kp (fun _ => False) w w', n, ⟨0, rfl, by simp [sv], by cases little <;> simpa [dig] using r1, hk1⟩, ?_⟩
  rintro m l w2 ⟨i, hm, rfl, r2, hk2⟩
  rw [s23_p4_Fe]
  unfold s23_p3
  try simp only [e_fd, e_nck, e_pkt, e_pkf, e_gdtt, e_gdtf, e_gdft, e_gdff, e_ift, e_iff, e_not, e_ln, e_lnT, e_cp, e_cvi, e_ex20, e_ex21, e_ex30, e_ex31, e_ex32, e_add, e_sub, e_mul, e_quo, e_rem, e_and, e_or, e_xor, e_shl, e_shr, e_eql, e_neq, e_lss, e_leq, e_gtr, e_geq, e_beq, e_bne, e_peq1, e_peq2, e_pne1, e_pne2, e_zeq1, e_zeq2, e_zne1, e_zne2, e_feq1, e_fne1, e_feq2, e_fne2, e_seq, e_sne, e_ta1, e_ta2, Nat.zero_add, Nat.add_zero, Bool.not_true, Bool.not_false]
  by_cases hi : i < n
  · have hi' : ((i : Nat) : Int) < ((n : Nat) : Int) := by omega
    simp only [hi', decide_true, e_fd, e_nck, e_pkt, e_pkf, e_gdtt, e_gdtf, e_gdft, e_gdff, e_ift, e_iff, e_not, e_ln, e_lnT, e_cp, e_cvi, e_ex20, e_ex21, e_ex30, e_ex31, e_ex32, e_add, e_sub, e_mul, e_quo, e_rem, e_and, e_or, e_xor, e_shl, e_shr, e_eql, e_neq, e_lss, e_leq, e_gtr, e_geq, e_beq, e_bne, e_peq1, e_peq2, e_pne1, e_pne2, e_zeq1, e_zeq2, e_zne1, e_zne2, e_feq1, e_fne1, e_feq2, e_fne2, e_seq, e_sne, e_ta1, e_ta2, Nat.zero_add, Nat.add_zero, Bool.not_true, Bool.not_false]
    have d1 := Int.ediv_nonneg hz.1 (Int.le_of_lt (hp i))
    have d2 := Int.ediv_le_self (256 ^ i) hz.1
    have e2 : z / 256 ^ i / 256 = z / 256 ^ (i + 1) := by rw [Int.ediv_ediv_of_nonneg (Int.le_of_lt (hp i)), Int.pow_succ]
    have e1 : (z / 256 ^ i).tmod 256 = z / 256 ^ i % 256 := Int.tmod_eq_emod_of_nonneg d1
    have e3 : (z / 256 ^ i).tdiv 256 = z / 256 ^ (i + 1) := by rw [Int.tdiv_eq_ediv_of_nonneg d1, e2]
    have ds := dig_succ (z := z) (n := i)
    have dl := dig_len (z := z) (n := i)
    have d4 : 0 ≤ z / 256 ^ (i + 1) ∧ z / 256 ^ (i + 1) ≤ 18446744073709551615 := by rw [← e2]; omega
    cases little with
    | true =>
      try simp only [e_fd, e_nck, e_pkt, e_pkf, e_gdtt, e_gdtf, e_gdft, e_gdff, e_ift, e_iff, e_not, e_ln, e_lnT, e_cp, e_cvi, e_ex20, e_ex21, e_ex30, e_ex31, e_ex32, e_add, e_sub, e_mul, e_quo, e_rem, e_and, e_or, e_xor, e_shl, e_shr, e_eql, e_neq, e_lss, e_leq, e_gtr, e_geq, e_beq, e_bne, e_peq1, e_peq2, e_pne1, e_pne2, e_zeq1, e_zeq2, e_zne1, e_zne2, e_feq1, e_fne1, e_feq2, e_fne2, e_seq, e_sne, e_ta1, e_ta2, Nat.zero_add, Nat.add_zero, Bool.not_true, Bool.not_false]
      refine ⟨by decide, ?_⟩
      rw [e1, wrapu8, show z / 256 ^ i % 256 % 256 = z / 256 ^ i % 256 by omega]
      refine ix_sv hi rfl ?_
      refine st1_r r2 (by simp [dl]; omega) rfl fun w3 r3 hk3 hz3 => ?_
      refine ⟨by decide, ?_⟩
      rw [e3, wrapu64, Int.emod_eq_of_lt d4.1 (by omega)]
      have el : ((if true = true then dig z i ++ List.replicate (n - i) 0 else List.replicate (n - i) 0 ++ (dig z i).reverse).map U8).set (0 + i) (U8 (z / 256 ^ i % 256)) = (if true = true then dig z (i + 1) ++ List.replicate (n - (i + 1)) 0 else List.replicate (n - (i + 1)) 0 ++ (dig z (i + 1)).reverse).map U8 := by
        rw [if_pos rfl, if_pos rfl, Nat.zero_add, ← List.map_set, List.set_append_right _ _ (by omega), dl, Nat.sub_self, show n - i = n - (i + 1) + 1 by omega, List.replicate_succ, List.set_cons_zero, ds, List.append_assoc]
        rfl
      rw [el] at r3
      unfold s23_p2
      try simp only [e_fd, e_nck, e_pkt, e_pkf, e_gdtt, e_gdtf, e_gdft, e_gdff, e_ift, e_iff, e_not, e_ln, e_lnT, e_cp, e_cvi, e_ex20, e_ex21, e_ex30, e_ex31, e_ex32, e_add, e_sub, e_mul, e_quo, e_rem, e_and, e_or, e_xor, e_shl, e_shr, e_eql, e_neq, e_lss, e_leq, e_gtr, e_geq, e_beq, e_bne, e_peq1, e_peq2, e_pne1, e_pne2, e_zeq1, e_zeq2, e_zne1, e_zne2, e_feq1, e_fne1, e_feq2, e_fne2, e_seq, e_sne, e_ta1, e_ta2, Nat.zero_add, Nat.add_zero, Bool.not_true, Bool.not_false]
      rw [wrap64_id (by omega) (by omega)]
      exact ⟨m - 1, by omega, i + 1, by omega, by simp, r3, hk2.then hk3 (fun k hk (q : k = _) => by omega)⟩
    | false =>
      try simp only [e_fd, e_nck, e_pkt, e_pkf, e_gdtt, e_gdtf, e_gdft, e_gdff, e_ift, e_iff, e_not, e_ln, e_lnT, e_cp, e_cvi, e_ex20, e_ex21, e_ex30, e_ex31, e_ex32, e_add, e_sub, e_mul, e_quo, e_rem, e_and, e_or, e_xor, e_shl, e_shr, e_eql, e_neq, e_lss, e_leq, e_gtr, e_geq, e_beq, e_bne, e_peq1, e_peq2, e_pne1, e_pne2, e_zeq1, e_zeq2, e_zne1, e_zne2, e_feq1, e_fne1, e_feq2, e_fne2, e_seq, e_sne, e_ta1, e_ta2, Nat.zero_add, Nat.add_zero, Bool.not_true, Bool.not_false]
      rw [wrap64_id (n := ((n : Nat) : Int) - 1) (by omega) (by omega), wrap64_id (by omega) (by omega)]
      refine ⟨by decide, ?_⟩
      rw [e1, wrapu8, show z / 256 ^ i % 256 % 256 = z / 256 ^ i % 256 by omega]
      refine ix_sv (i := n - 1 - i) (by omega) (by omega) ?_
      refine st1_r r2 (by simp [dl]; omega) rfl fun w3 r3 hk3 hz3 => ?_
      refine ⟨by decide, ?_⟩
      rw [e3, wrapu64, Int.emod_eq_of_lt d4.1 (by omega)]
      have el : ((if false = true then dig z i ++ List.replicate (n - i) 0 else List.replicate (n - i) 0 ++ (dig z i).reverse).map U8).set (0 + (n - 1 - i)) (U8 (z / 256 ^ i % 256)) = (if false = true then dig z (i + 1) ++ List.replicate (n - (i + 1)) 0 else List.replicate (n - (i + 1)) 0 ++ (dig z (i + 1)).reverse).map U8 := by
        rw [if_neg (by decide), if_neg (by decide), Nat.zero_add, ← List.map_set, List.set_append_left _ _ (by rw [List.length_replicate]; omega), ds, List.reverse_append]
        congr 1
        rw [show n - i = (n - (i + 1)) + 1 by omega, List.replicate_succ', show n - 1 - i = n - (i + 1) by omega, List.set_append_right _ _ (by rw [List.length_replicate]; omega), List.length_replicate, Nat.sub_self, List.append_assoc]
        rfl
      rw [el] at r3
      unfold s23_p2
      try simp only [e_fd, e_nck, e_pkt, e_pkf, e_gdtt, e_gdtf, e_gdft, e_gdff, e_ift, e_iff, e_not, e_ln, e_lnT, e_cp, e_cvi, e_ex20, e_ex21, e_ex30, e_ex31, e_ex32, e_add, e_sub, e_mul, e_quo, e_rem, e_and, e_or, e_xor, e_shl, e_shr, e_eql, e_neq, e_lss, e_leq, e_gtr, e_geq, e_beq, e_bne, e_peq1, e_peq2, e_pne1, e_pne2, e_zeq1, e_zeq2, e_zne1, e_zne2, e_feq1, e_fne1, e_feq2, e_fne2, e_seq, e_sne, e_ta1, e_ta2, Nat.zero_add, Nat.add_zero, Bool.not_true, Bool.not_false]
      rw [wrap64_id (by omega) (by omega)]
      exact ⟨m - 1, by omega, i + 1, by omega, by simp, r3, hk2.then hk3 (fun k hk (q : k = _) => by omega)⟩
  · have hi' : ¬ ((i : Nat) : Int) < ((n : Nat) : Int) := by omega
    simp only [hi', decide_false, e_fd, e_nck, e_pkt, e_pkf, e_gdtt, e_gdtf, e_gdft, e_gdff, e_ift, e_iff, e_not, e_ln, e_lnT, e_cp, e_cvi, e_ex20, e_ex21, e_ex30, e_ex31, e_ex32, e_add, e_sub, e_mul, e_quo, e_rem, e_and, e_or, e_xor, e_shl, e_shr, e_eql, e_neq, e_lss, e_leq, e_gtr, e_geq, e_beq, e_bne, e_peq1, e_peq2, e_pne1, e_pne2, e_zeq1, e_zeq2, e_zne1, e_zne2, e_feq1, e_fne1, e_feq2, e_fne2, e_seq, e_sne, e_ta1, e_ta2, Nat.zero_add, Nat.add_zero, Bool.not_true, Bool.not_false]
    unfold s23_p1
    have : i = n := by omega
    subst this
    refine hK w2 w.heap.size ?_ (Nat.le_refl _) hk2
    unfold digE
    rw [Nat.sub_self, List.replicate_zero, List.append_nil, List.nil_append] at r2
    exact r2
/-- a string of the wanted length -/
theorem fit_ok (h0 : Bs w t0 xs) (hn : n ≤ 100000000000) (hxl : xs.length ≤ 1000000000000) (hK : ∀ w' v zs, Bs w' v zs → By zs → zs.length = n → Kp (fun _ => False) w w' → K v w') : cl Try.prog 22 #[t0, I (n : Nat)] K w := by
  apply c22
  unfold s22_p5
  refine mks_r (n := n) (by omega) (by omega) fun w1 r1 hk1 hz1 => ?_
  show lnS (sv w.heap.size 0 n n) _ w1
  try simp only [e_fd, e_nck, e_pkt, e_pkf, e_gdtt, e_gdtf, e_gdft, e_gdff, e_ift, e_iff, e_not, e_ln, e_lnT, e_cp, e_cvi, e_ex20, e_ex21, e_ex30, e_ex31, e_ex32, e_add, e_sub, e_mul, e_quo, e_rem, e_and, e_or, e_xor, e_shl, e_shr, e_eql, e_neq, e_lss, e_leq, e_gtr, e_geq, e_beq, e_bne, e_peq1, e_peq2, e_pne1, e_pne2, e_zeq1, e_zeq2, e_zne1, e_zne2, e_feq1, e_fne1, e_feq2, e_fne2, e_seq, e_sne, e_ta1, e_ta2, Nat.zero_add, Nat.add_zero, Bool.not_true, Bool.not_false]
  unfold s22_p4
  refine ⟨fun m l w' => ∃ (i : Nat) (zs : List Int), m + i = n ∧ l = [t0, sv w.heap.size 0 n n, I (n : Nat), I (i : Nat)] ∧ By zs ∧ zs.length = n ∧ Row w' w.heap.size 5 (zs.map U8) ∧ Kp (fun _ => False) w w', n, ⟨0, List.replicate n 0, rfl, rfl, fun x hx => by have := List.eq_of_mem_replicate hx; omega, by simp, by simpa using r1, hk1⟩, ?_⟩
  rintro m l w2 ⟨i, zs, hm, rfl, bz, lz, r2, hk2⟩
  rw [s22_p4_Fe]
  unfold s22_p3
  try simp only [e_fd, e_nck, e_pkt, e_pkf, e_gdtt, e_gdtf, e_gdft, e_gdff, e_ift, e_iff, e_not, e_ln, e_lnT, e_cp, e_cvi, e_ex20, e_ex21, e_ex30, e_ex31, e_ex32, e_add, e_sub, e_mul, e_quo, e_rem, e_and, e_or, e_xor, e_shl, e_shr, e_eql, e_neq, e_lss, e_leq, e_gtr, e_geq, e_beq, e_bne, e_peq1, e_peq2, e_pne1, e_pne2, e_zeq1, e_zeq2, e_zne1, e_zne2, e_feq1, e_fne1, e_feq2, e_fne2, e_seq, e_sne, e_ta1, e_ta2, Nat.zero_add, Nat.add_zero, Bool.not_true, Bool.not_false]
  by_cases hi : i < n
  · have hi' : ((i : Nat) : Int) < ((n : Nat) : Int) := by omega
    simp only [hi', decide_true, e_fd, e_nck, e_pkt, e_pkf, e_gdtt, e_gdtf, e_gdft, e_gdff, e_ift, e_iff, e_not, e_ln, e_lnT, e_cp, e_cvi, e_ex20, e_ex21, e_ex30, e_ex31, e_ex32, e_add, e_sub, e_mul, e_quo, e_rem, e_and, e_or, e_xor, e_shl, e_shr, e_eql, e_neq, e_lss, e_leq, e_gtr, e_geq, e_beq, e_bne, e_peq1, e_peq2, e_pne1, e_pne2, e_zeq1, e_zeq2, e_zne1, e_zne2, e_feq1, e_fne1, e_feq2, e_fne2, e_seq, e_sne, e_ta1, e_ta2, Nat.zero_add, Nat.add_zero, Bool.not_true, Bool.not_false]
    have h2 := h0.kp' hk2
    refine h2.ln ?_
    try simp only [e_fd, e_nck, e_pkt, e_pkf, e_gdtt, e_gdtf, e_gdft, e_gdff, e_ift, e_iff, e_not, e_ln, e_lnT, e_cp, e_cvi, e_ex20, e_ex21, e_ex30, e_ex31, e_ex32, e_add, e_sub, e_mul, e_quo, e_rem, e_and, e_or, e_xor, e_shl, e_shr, e_eql, e_neq, e_lss, e_leq, e_gtr, e_geq, e_beq, e_bne, e_peq1, e_peq2, e_pne1, e_pne2, e_zeq1, e_zeq2, e_zne1, e_zne2, e_feq1, e_fne1, e_feq2, e_fne2, e_seq, e_sne, e_ta1, e_ta2, Nat.zero_add, Nat.add_zero, Bool.not_true, Bool.not_false]
    by_cases hx : 0 < xs.length
    · have hx' : (0 : Int) < ((xs.length : Nat) : Int) := by omega
      simp only [hx', decide_true, e_fd, e_nck, e_pkt, e_pkf, e_gdtt, e_gdtf, e_gdft, e_gdff, e_ift, e_iff, e_not, e_ln, e_lnT, e_cp, e_cvi, e_ex20, e_ex21, e_ex30, e_ex31, e_ex32, e_add, e_sub, e_mul, e_quo, e_rem, e_and, e_or, e_xor, e_shl, e_shr, e_eql, e_neq, e_lss, e_leq, e_gtr, e_geq, e_beq, e_bne, e_peq1, e_peq2, e_pne1, e_pne2, e_zeq1, e_zeq2, e_zne1, e_zne2, e_feq1, e_fne1, e_feq2, e_fne2, e_seq, e_sne, e_ta1, e_ta2, Nat.zero_add, Nat.add_zero, Bool.not_true, Bool.not_false]
      refine h2.ln ?_
      try simp only [e_fd, e_nck, e_pkt, e_pkf, e_gdtt, e_gdtf, e_gdft, e_gdff, e_ift, e_iff, e_not, e_ln, e_lnT, e_cp, e_cvi, e_ex20, e_ex21, e_ex30, e_ex31, e_ex32, e_add, e_sub, e_mul, e_quo, e_rem, e_and, e_or, e_xor, e_shl, e_shr, e_eql, e_neq, e_lss, e_leq, e_gtr, e_geq, e_beq, e_bne, e_peq1, e_peq2, e_pne1, e_pne2, e_zeq1, e_zeq2, e_zne1, e_zne2, e_feq1, e_fne1, e_feq2, e_fne2, e_seq, e_sne, e_ta1, e_ta2, Nat.zero_add, Nat.add_zero, Bool.not_true, Bool.not_false]
      refine ⟨by omega, ?_⟩
      have em : ((i : Nat) : Int).tmod ((xs.length : Nat) : Int) = ((i % xs.length : Nat) : Int) := by rw [Int.tmod_eq_emod_of_nonneg (by omega)]; rfl
      rw [em]
      have hlt : i % xs.length < xs.length := Nat.mod_lt _ hx
      refine h2.ixg (i % xs.length) rfl hlt fun b' q' hld => hld _ ?_
      refine ix_sv hi rfl ?_
      refine st1_r r2 (by rw [List.length_map]; omega) rfl fun w3 r3 hk3 hz3 => ?_
      rw [Nat.zero_add, ← List.map_set] at r3
      unfold s22_p2
      try simp only [e_fd, e_nck, e_pkt, e_pkf, e_gdtt, e_gdtf, e_gdft, e_gdff, e_ift, e_iff, e_not, e_ln, e_lnT, e_cp, e_cvi, e_ex20, e_ex21, e_ex30, e_ex31, e_ex32, e_add, e_sub, e_mul, e_quo, e_rem, e_and, e_or, e_xor, e_shl, e_shr, e_eql, e_neq, e_lss, e_leq, e_gtr, e_geq, e_beq, e_bne, e_peq1, e_peq2, e_pne1, e_pne2, e_zeq1, e_zeq2, e_zne1, e_zne2, e_feq1, e_fne1, e_feq2, e_fne2, e_seq, e_sne, e_ta1, e_ta2, Nat.zero_add, Nat.add_zero, Bool.not_true, Bool.not_false]
      rw [wrap64_id (by omega) (by omega)]
      exact ⟨m - 1, by omega, i + 1, _, by omega, by simp, by_set bz (h0.gb _), by rw [List.length_set]; exact lz, r3, hk2.then hk3 (fun k hk (q : k = _) => by omega)⟩
    · have hx' : ¬ (0 : Int) < ((xs.length : Nat) : Int) := by omega
      simp only [hx', decide_false, e_fd, e_nck, e_pkt, e_pkf, e_gdtt, e_gdtf, e_gdft, e_gdff, e_ift, e_iff, e_not, e_ln, e_lnT, e_cp, e_cvi, e_ex20, e_ex21, e_ex30, e_ex31, e_ex32, e_add, e_sub, e_mul, e_quo, e_rem, e_and, e_or, e_xor, e_shl, e_shr, e_eql, e_neq, e_lss, e_leq, e_gtr, e_geq, e_beq, e_bne, e_peq1, e_peq2, e_pne1, e_pne2, e_zeq1, e_zeq2, e_zne1, e_zne2, e_feq1, e_fne1, e_feq2, e_fne2, e_seq, e_sne, e_ta1, e_ta2, Nat.zero_add, Nat.add_zero, Bool.not_true, Bool.not_false]
      unfold s22_p2
      try simp only [e_fd, e_nck, e_pkt, e_pkf, e_gdtt, e_gdtf, e_gdft, e_gdff, e_ift, e_iff, e_not, e_ln, e_lnT, e_cp, e_cvi, e_ex20, e_ex21, e_ex30, e_ex31, e_ex32, e_add, e_sub, e_mul, e_quo, e_rem, e_and, e_or, e_xor, e_shl, e_shr, e_eql, e_neq, e_lss, e_leq, e_gtr, e_geq, e_beq, e_bne, e_peq1, e_peq2, e_pne1, e_pne2, e_zeq1, e_zeq2, e_zne1, e_zne2, e_feq1, e_fne1, e_feq2, e_fne2, e_seq, e_sne, e_ta1, e_ta2, Nat.zero_add, Nat.add_zero, Bool.not_true, Bool.not_false]
      rw [wrap64_id (by omega) (by omega)]
      exact ⟨m - 1, by omega, i + 1, zs, by omega, by simp, bz, lz, r2, hk2⟩
  · have hi' : ¬ ((i : Nat) : Int) < ((n : Nat) : Int) := by omega
    simp only [hi', decide_false, e_fd, e_nck, e_pkt, e_pkf, e_gdtt, e_gdtf, e_gdft, e_gdff, e_ift, e_iff, e_not, e_ln, e_lnT, e_cp, e_cvi, e_ex20, e_ex21, e_ex30, e_ex31, e_ex32, e_add, e_sub, e_mul, e_quo, e_rem, e_and, e_or, e_xor, e_shl, e_shr, e_eql, e_neq, e_lss, e_leq, e_gtr, e_geq, e_beq, e_bne, e_peq1, e_peq2, e_pne1, e_pne2, e_zeq1, e_zeq2, e_zne1, e_zne2, e_feq1, e_fne1, e_feq2, e_fne2, e_seq, e_sne, e_ta1, e_ta2, Nat.zero_add, Nat.add_zero, Bool.not_true, Bool.not_false]
    unfold s22_p1
    have := (mv_row r2 bz (by omega)).bs
    rw [lz] at this
    exact hK w2 _ zs this bz lz hk2
end
end Go.Proofs.Qxb6500898a
