import Derived.Test.Qxb6500898aV22
namespace Go.Proofs.Qxb6500898a
open Go.Sh Go.RowKit
set_option linter.unusedVariables false
set_option linter.unusedSimpArgs false

section
variable {W w w' w0 w2 : World} {v d t wv rv dv t0 t1 : Value} {ob wob wob0 : Option Nat} {mb b e m n i k : Nat} {xs ys zs pr da X Y : List Int} {K : Value → World → Prop} {B1 : List Value → World → Prop} {S S' : Nat → Prop} {L : List Value} {q c : Int}
theorem drop_one (hk : k < X.length) : X.drop k = X[k] :: X.drop (k + 1) := List.drop_eq_getElem_cons hk
theorem val2_cons {x : Int} : val2 (x :: X) = x * 2 ^ X.length + val2 X := rfl
/-- the model's addition of bits -/
theorem plus_ok (h0 : Vs I w t0 X) (h1 : Vs I w t1 Y) (hl : X.length = Y.length) (hN : X.length ≤ 1000000000000) (bX : Bits01 X) (bY : Bits01 Y) (hc : 0 ≤ c ∧ c ≤ 1)
    (hK : ∀ w' b S c', Row w' b 3 (S.map I) → w.heap.size ≤ b → S.length = X.length → Bits01 S → 0 ≤ c' ∧ c' ≤ 1 → val2 S + c' * 2 ^ X.length = val2 X + val2 Y + c → Kp (fun _ => False) w w' → K (.tuple #[sv b 0 X.length X.length, I c']) w') : cl Try.prog 103 #[t0, t1, I c] K w := by
  apply c103
  unfold s103_p7
  refine h0.ln ?_
  refine mks_r (n := X.length) (by omega) (by omega) fun w1 r1 hk1 hz1 => ?_
  refine (h0.kp' hk1).ln ?_
  try simp only [e_fd, e_nck, e_pkt, e_pkf, e_gdtt, e_gdtf, e_gdft, e_gdff, e_ift, e_iff, e_not, e_ln, e_lnT, e_cp, e_cvi, e_ex20, e_ex21, e_ex30, e_ex31, e_ex32, e_add, e_sub, e_mul, e_quo, e_rem, e_and, e_or, e_xor, e_shl, e_shr, e_eql, e_neq, e_lss, e_leq, e_gtr, e_geq, e_beq, e_bne, e_peq1, e_peq2, e_pne1, e_pne2, e_zeq1, e_zeq2, e_zne1, e_zne2, e_feq1, e_fne1, e_feq2, e_fne2, e_seq, e_sne, e_ta1, e_ta2, Nat.zero_add, Nat.add_zero, Bool.not_true, Bool.not_false]
  rw [wrap64_id (by omega) (by omega)]
  unfold s103_p6
  refine ⟨fun n l w' => ∃ (S : List Int) (c' : Int), n + S.length = X.length ∧ l = [t0, t1, I c', sv w.heap.size 0 X.length X.length, I ((n : Int) - 1)] ∧ Row w' w.heap.size 3 ((List.replicate n 0 ++ S).map I) ∧ Bits01 S ∧ (0 ≤ c' ∧ c' ≤ 1) ∧ val2 S + c' * 2 ^ S.length = val2 (X.drop n) + val2 (Y.drop n) + c ∧ Kp (fun _ => False) w w', X.length, ⟨[], c, rfl, rfl, by simpa using r1, fun x hx => (by cases hx), hc, by rw [List.drop_of_length_le (Nat.le_refl _), List.drop_of_length_le (by omega)]; simp [val2], hk1⟩, ?_⟩
  rintro n l w2 ⟨S, c', hn, rfl, r2, bS, hc', hv, hk2⟩
  rw [s103_p6_Fe]
  unfold s103_p5
  try simp only [e_fd, e_nck, e_pkt, e_pkf, e_gdtt, e_gdtf, e_gdft, e_gdff, e_ift, e_iff, e_not, e_ln, e_lnT, e_cp, e_cvi, e_ex20, e_ex21, e_ex30, e_ex31, e_ex32, e_add, e_sub, e_mul, e_quo, e_rem, e_and, e_or, e_xor, e_shl, e_shr, e_eql, e_neq, e_lss, e_leq, e_gtr, e_geq, e_beq, e_bne, e_peq1, e_peq2, e_pne1, e_pne2, e_zeq1, e_zeq2, e_zne1, e_zne2, e_feq1, e_fne1, e_feq2, e_fne2, e_seq, e_sne, e_ta1, e_ta2, Nat.zero_add, Nat.add_zero, Bool.not_true, Bool.not_false]
  by_cases hi : 0 < n
  · have hi' : (0 : Int) ≤ ((n : Nat) : Int) - 1 := by omega
    simp only [hi', decide_true, e_fd, e_nck, e_pkt, e_pkf, e_gdtt, e_gdtf, e_gdft, e_gdff, e_ift, e_iff, e_not, e_ln, e_lnT, e_cp, e_cvi, e_ex20, e_ex21, e_ex30, e_ex31, e_ex32, e_add, e_sub, e_mul, e_quo, e_rem, e_and, e_or, e_xor, e_shl, e_shr, e_eql, e_neq, e_lss, e_leq, e_gtr, e_geq, e_beq, e_bne, e_peq1, e_peq2, e_pne1, e_pne2, e_zeq1, e_zeq2, e_zne1, e_zne2, e_feq1, e_fne1, e_feq2, e_fne2, e_seq, e_sne, e_ta1, e_ta2, Nat.zero_add, Nat.add_zero, Bool.not_true, Bool.not_false]
    unfold s103_p4 s103_p4_d
    have k3 : Kp (fun _ => False) w2 (drw w2) := kp_drw
    generalize drw w2 = w3 at k3 ⊢
    have k03 := hk2.trans k3
    have e1 : ((n : Nat) : Int) - 1 = ((n - 1 : Nat) : Int) := by omega
    rw [e1]
    have hx : n - 1 < X.length := by omega
    have hy : n - 1 < Y.length := by omega
    refine (h0.kp' k03).ix (i := n - 1) hx fun b' q' hld => hld _ ?_
    refine (h1.kp' k03).ix (i := n - 1) hy fun b'' q'' hld' => hld' _ ?_
    have gx := bX _ (List.getElem_mem hx)
    have gy := bY _ (List.getElem_mem hy)
    try simp only [e_fd, e_nck, e_pkt, e_pkf, e_gdtt, e_gdtf, e_gdft, e_gdff, e_ift, e_iff, e_not, e_ln, e_lnT, e_cp, e_cvi, e_ex20, e_ex21, e_ex30, e_ex31, e_ex32, e_add, e_sub, e_mul, e_quo, e_rem, e_and, e_or, e_xor, e_shl, e_shr, e_eql, e_neq, e_lss, e_leq, e_gtr, e_geq, e_beq, e_bne, e_peq1, e_peq2, e_pne1, e_pne2, e_zeq1, e_zeq2, e_zne1, e_zne2, e_feq1, e_fne1, e_feq2, e_fne2, e_seq, e_sne, e_ta1, e_ta2, Nat.zero_add, Nat.add_zero, Bool.not_true, Bool.not_false]
    have dX := drop_one hx
    have dY := drop_one hy
    rw [show n - 1 + 1 = n by omega] at dX dY
    generalize X[n - 1] = x at gx dX ⊢
    generalize Y[n - 1] = y at gy dY ⊢
    rw [wrap64_id (n := x + y) (by omega) (by omega), wrap64_id (by omega) (by omega)]
    unfold s103_p3
    try simp only [e_fd, e_nck, e_pkt, e_pkf, e_gdtt, e_gdtf, e_gdft, e_gdff, e_ift, e_iff, e_not, e_ln, e_lnT, e_cp, e_cvi, e_ex20, e_ex21, e_ex30, e_ex31, e_ex32, e_add, e_sub, e_mul, e_quo, e_rem, e_and, e_or, e_xor, e_shl, e_shr, e_eql, e_neq, e_lss, e_leq, e_gtr, e_geq, e_beq, e_bne, e_peq1, e_peq2, e_pne1, e_pne2, e_zeq1, e_zeq2, e_zne1, e_zne2, e_feq1, e_fne1, e_feq2, e_fne2, e_seq, e_sne, e_ta1, e_ta2, Nat.zero_add, Nat.add_zero, Bool.not_true, Bool.not_false]
    refine ⟨by decide, ?_⟩
    refine ix_sv (i := n - 1) (by omega) rfl ?_
    rw [Int.tmod_eq_emod_of_nonneg (by omega)]
    have r3 := k3.row' r2
    refine st1_r r3 (by rw [List.length_map, List.length_append, List.length_replicate]; omega) rfl fun w4 r4 hk4 hz4 => ?_
    refine ⟨by decide, ?_⟩
    rw [Int.tdiv_eq_ediv_of_nonneg (by omega), wrap64_id (by omega) (by omega)]
    unfold s103_p2
    try simp only [e_fd, e_nck, e_pkt, e_pkf, e_gdtt, e_gdtf, e_gdft, e_gdff, e_ift, e_iff, e_not, e_ln, e_lnT, e_cp, e_cvi, e_ex20, e_ex21, e_ex30, e_ex31, e_ex32, e_add, e_sub, e_mul, e_quo, e_rem, e_and, e_or, e_xor, e_shl, e_shr, e_eql, e_neq, e_lss, e_leq, e_gtr, e_geq, e_beq, e_bne, e_peq1, e_peq2, e_pne1, e_pne2, e_zeq1, e_zeq2, e_zne1, e_zne2, e_feq1, e_fne1, e_feq2, e_fne2, e_seq, e_sne, e_ta1, e_ta2, Nat.zero_add, Nat.add_zero, Bool.not_true, Bool.not_false]
    rw [wrap64_id (by omega) (by omega)]
    have el : ((List.replicate n 0 ++ S).map I).set (0 + (n - 1)) (I ((x + y + c') % 2)) = (List.replicate (n - 1) 0 ++ ((x + y + c') % 2 :: S)).map I := by
      rw [Nat.zero_add, ← List.map_set, List.set_append_left _ _ (by rw [List.length_replicate]; omega)]
      congr 1
      rw [show n = (n - 1) + 1 by omega, List.replicate_succ', show n - 1 + 1 - 1 = n - 1 by omega, List.set_append_right _ _ (by rw [List.length_replicate]; omega), List.length_replicate, Nat.sub_self, List.append_assoc]
      rfl
    rw [el] at r4
    have hlX : (X.drop n).length = S.length := by rw [List.length_drop]; omega
    have hlY : (Y.drop n).length = S.length := by rw [List.length_drop]; omega
    refine ⟨n - 1, by omega, (x + y + c') % 2 :: S, (x + y + c') / 2, by rw [List.length_cons]; omega, rfl, r4, ?_, by omega, ?_, k03.then hk4 (fun k hk (q : k = _) => by omega)⟩
    · intro z hz
      rcases List.mem_cons.1 hz with q | q
      · rw [q]; omega
      · exact bS z q
    · rw [dX, dY, val2_cons, val2_cons, val2_cons, hlX, hlY, List.length_cons, Int.pow_succ]
      generalize (2 : Int) ^ S.length = P at hv ⊢
      have e2 : x + y + c' = (x + y + c') / 2 * 2 + (x + y + c') % 2 := by omega
      have e3 : (x + y + c') * P = ((x + y + c') / 2 * 2 + (x + y + c') % 2) * P := by rw [← e2]
      rw [Int.add_mul, Int.add_mul, Int.add_mul, Int.mul_assoc, Int.mul_comm 2 P] at e3
      omega
  · have hi' : ¬ (0 : Int) ≤ ((n : Nat) : Int) - 1 := by omega
    simp only [hi', decide_false, e_fd, e_nck, e_pkt, e_pkf, e_gdtt, e_gdtf, e_gdft, e_gdff, e_ift, e_iff, e_not, e_ln, e_lnT, e_cp, e_cvi, e_ex20, e_ex21, e_ex30, e_ex31, e_ex32, e_add, e_sub, e_mul, e_quo, e_rem, e_and, e_or, e_xor, e_shl, e_shr, e_eql, e_neq, e_lss, e_leq, e_gtr, e_geq, e_beq, e_bne, e_peq1, e_peq2, e_pne1, e_pne2, e_zeq1, e_zeq2, e_zne1, e_zne2, e_feq1, e_fne1, e_feq2, e_fne2, e_seq, e_sne, e_ta1, e_ta2, Nat.zero_add, Nat.add_zero, Bool.not_true, Bool.not_false]
    unfold s103_p1
    have : n = 0 := by omega
    subst this
    rw [List.drop_zero, List.drop_zero] at hv
    have hSl : S.length = X.length := by omega
    rw [hSl] at hv
    exact hK w2 w.heap.size S c' (by simpa using r2) (Nat.le_refl _) hSl bS hc' hv hk2
theorem vs_rowI {S : List Int} (hr : Row w b 3 (S.map I)) (hl : S.length = n) (hn : n ≤ 1000000000000000) : Vs I w (sv b 0 n n) S := by
  subst hl
  exact vs_row (junk := []) (by simpa using hr) (Nat.le_refl _) (by omega)
theorem sl_rowI {S : List Int} (hr : Row w b 3 (S.map I)) (hl : S.length = n) : Sl n1 1 w 3 (some b) (sv b 0 n n) S := by
  subst hl
  exact ⟨S.length, [], rfl, Nat.le_refl _, by simp, by rw [rows_n1]; simpa using hr⟩
/-- the model's ones'-complement addition -/
theorem add_ok (h0 : Bs w t0 xs) (h1 : Bs w t1 ys) (hxl : xs.length ≤ 100000000000) (hyl : ys.length ≤ 100000000000) (hN : xs.length ≠ ys.length → K (.tuple #[.slice none 0 0, .bool false]) w)
    (hY : xs.length = ys.length → ∀ w' b v zs, Sl u1 1 w' 5 (some b) v zs → w.heap.size ≤ b → By zs → zs.length = xs.length → Res xs.length (val xs + val ys) (val zs) → Kp (fun _ => False) w w' → K (.tuple #[v, .bool true]) w') : cl Try.prog 55 #[t0, t1] K w := by
  have hx : By xs := h0.by_
  have hy : By ys := h1.by_
  apply c55
  unfold s55_p1
  refine h0.ln ?_
  refine h1.ln ?_
  try simp only [e_fd, e_nck, e_pkt, e_pkf, e_gdtt, e_gdtf, e_gdft, e_gdff, e_ift, e_iff, e_not, e_ln, e_lnT, e_cp, e_cvi, e_ex20, e_ex21, e_ex30, e_ex31, e_ex32, e_add, e_sub, e_mul, e_quo, e_rem, e_and, e_or, e_xor, e_shl, e_shr, e_eql, e_neq, e_lss, e_leq, e_gtr, e_geq, e_beq, e_bne, e_peq1, e_peq2, e_pne1, e_pne2, e_zeq1, e_zeq2, e_zne1, e_zne2, e_feq1, e_fne1, e_feq2, e_fne2, e_seq, e_sne, e_ta1, e_ta2, Nat.zero_add, Nat.add_zero, Bool.not_true, Bool.not_false]
  by_cases hl : ¬ xs.length = ys.length
  · have e : (((xs.length : Nat) : Int) != ((ys.length : Nat) : Int)) = true := by rw [bne_iff_ne]; omega
    simp only [e, e_fd, e_nck, e_pkt, e_pkf, e_gdtt, e_gdtf, e_gdft, e_gdff, e_ift, e_iff, e_not, e_ln, e_lnT, e_cp, e_cvi, e_ex20, e_ex21, e_ex30, e_ex31, e_ex32, e_add, e_sub, e_mul, e_quo, e_rem, e_and, e_or, e_xor, e_shl, e_shr, e_eql, e_neq, e_lss, e_leq, e_gtr, e_geq, e_beq, e_bne, e_peq1, e_peq2, e_pne1, e_pne2, e_zeq1, e_zeq2, e_zne1, e_zne2, e_feq1, e_fne1, e_feq2, e_fne2, e_seq, e_sne, e_ta1, e_ta2, Nat.zero_add, Nat.add_zero, Bool.not_true, Bool.not_false]
    exact hN hl
  have hl' : xs.length = ys.length := Decidable.not_not.1 hl
  have e : (((xs.length : Nat) : Int) != ((ys.length : Nat) : Int)) = false := by rw [hl']; exact bne_self_eq_false _
  simp only [e, e_fd, e_nck, e_pkt, e_pkf, e_gdtt, e_gdtf, e_gdft, e_gdff, e_ift, e_iff, e_not, e_ln, e_lnT, e_cp, e_cvi, e_ex20, e_ex21, e_ex30, e_ex31, e_ex32, e_add, e_sub, e_mul, e_quo, e_rem, e_and, e_or, e_xor, e_shl, e_shr, e_eql, e_neq, e_lss, e_leq, e_gtr, e_geq, e_beq, e_bne, e_peq1, e_peq2, e_pne1, e_pne2, e_zeq1, e_zeq2, e_zne1, e_zne2, e_feq1, e_fne1, e_feq2, e_fne2, e_seq, e_sne, e_ta1, e_ta2, Nat.zero_add, Nat.add_zero, Bool.not_true, Bool.not_false]
  have lX := bitsOf_len (xs := xs)
  have lY := bitsOf_len (xs := ys)
  refine bits_ok h0 hxl fun w1 t15 b1 s1 hb1 hk1 => ?_
  refine bits_ok (h1.kp' hk1) hyl fun w2 t17 b2 s2 hb2 hk2 => ?_
  have k2 := hk1.trans hk2
  refine plus_ok ((sl_vs s1 (by omega)).kp' hk2) (sl_vs s2 (by omega)) (by omega) (by omega) (bits01 xs) (bits01 ys) (by decide) fun w3 b3 S c r3 hb3 hSl bS hc hv hk3 => ?_
  have k3 := k2.trans hk3
  try simp only [e_fd, e_nck, e_pkt, e_pkf, e_gdtt, e_gdtf, e_gdft, e_gdff, e_ift, e_iff, e_not, e_ln, e_lnT, e_cp, e_cvi, e_ex20, e_ex21, e_ex30, e_ex31, e_ex32, e_add, e_sub, e_mul, e_quo, e_rem, e_and, e_or, e_xor, e_shl, e_shr, e_eql, e_neq, e_lss, e_leq, e_gtr, e_geq, e_beq, e_bne, e_peq1, e_peq2, e_pne1, e_pne2, e_zeq1, e_zeq2, e_zne1, e_zne2, e_feq1, e_fne1, e_feq2, e_fne2, e_seq, e_sne, e_ta1, e_ta2, Nat.zero_add, Nat.add_zero, Bool.not_true, Bool.not_false]
  have hSl' : S.length = 8 * xs.length := by omega
  have vS := vs_rowI r3 hSl' (by omega)
  rw [lX]
  refine mks_r (n := 8 * xs.length) (by omega) (by omega) fun w4 r4 hk4 hz4 => ?_
  have r4' : Row w4 w3.heap.size 3 ((List.replicate (8 * xs.length) 0).map I) := by simpa using r4
  refine plus_ok (vS.kp' hk4) (vs_rowI r4' (by simp) (by omega)) (by simp; omega) (by omega) bS (fun x hx => by have := List.eq_of_mem_replicate hx; omega) hc fun w5 b5 S2 c2 r5 hb5 hS2 bS2 hc2 hv2 hk5 => ?_
  try simp only [e_fd, e_nck, e_pkt, e_pkf, e_gdtt, e_gdtf, e_gdft, e_gdff, e_ift, e_iff, e_not, e_ln, e_lnT, e_cp, e_cvi, e_ex20, e_ex21, e_ex30, e_ex31, e_ex32, e_add, e_sub, e_mul, e_quo, e_rem, e_and, e_or, e_xor, e_shl, e_shr, e_eql, e_neq, e_lss, e_leq, e_gtr, e_geq, e_beq, e_bne, e_peq1, e_peq2, e_pne1, e_pne2, e_zeq1, e_zeq2, e_zne1, e_zne2, e_feq1, e_fne1, e_feq2, e_fne2, e_seq, e_sne, e_ta1, e_ta2, Nat.zero_add, Nat.add_zero, Bool.not_true, Bool.not_false]
  rw [hSl'] at hS2 hv2 ⊢
  obtain ⟨zs, bz, lz, ez⟩ := bits_of bS2 hS2
  subst ez
  have hz0 : ∀ m : Nat, val2 (List.replicate m 0) = 0 := fun m => by
    induction m with
    | zero => rfl
    | succ m ih => rw [List.replicate_succ, val2, ih]; simp
  rw [hz0, val_bits bz, pw_28] at hv2
  rw [val_bits hx, val_bits hy, lX, pw_28] at hv
  have k5 := (k3.trans hk4).trans hk5
  refine octets_ok (sl_rowI r5 hS2) bz (by omega) fun w6 b6 v6 s6 hb6 hk6 => ?_
  have sz := k5.size
  refine hY hl' w6 b6 v6 zs s6 (by omega) bz lz ?_ (k5.trans hk6)
  have rx := val_rng hx
  have ry := val_rng hy
  have rz := val_rng bz
  have rS := val2_rng bS
  rw [hSl', pw_28] at rS
  rw [lz] at rz
  rw [← hl'] at ry
  have hp := pw_pos xs.length
  unfold Res
  generalize (256 : Int) ^ xs.length = P at *
  have c01 : c = 0 ∨ c = 1 := by omega
  have c201 : c2 = 0 ∨ c2 = 1 := by omega
  rcases c01 with rfl | rfl
  · refine ⟨0, by omega, ?_, fun q => ?_, fun q => ?_⟩
    · rcases c201 with rfl | rfl <;> omega
    · rcases c201 with rfl | rfl <;> omega
    · rcases c201 with rfl | rfl <;> omega
  · refine ⟨1, by omega, ?_, fun q => ?_, fun q => ?_⟩
    · rcases c201 with rfl | rfl <;> omega
    · rcases c201 with rfl | rfl <;> omega
    · rcases c201 with rfl | rfl <;> omega
/-- the law's own sum: of strings of equal length -/
theorem sum_ok (h0 : Bs w t0 xs) (h1 : Bs w t1 ys) (hxl : xs.length ≤ 100000000000) (hl : xs.length = ys.length)
    (hY : ∀ w' v zs, Bs w' v zs → By zs → zs.length = xs.length → Res xs.length (val xs + val ys) (val zs) → Kp (fun _ => False) w w' → K v w') : cl Try.prog 65 #[t0, t1] K w := by
  apply c65
  unfold s65_p1
  refine clone_ok h0 (by omega) fun w1 b1 r1 hb1 hk1 => ?_
  have m1 := mv_row r1 h0.by_ (by omega)
  have nb : ∀ {w2}, Kp (fun k => some b1 = some k) w1 w2 → Kp (fun _ => False) w w2 := fun hk2 => hk1.then hk2 (fun k hk (q : some _ = some k) => by cases q; omega)
  refine addOnes_ok m1 (fun w2 hk2 => h1.kp' (nb hk2)) (fun hn => absurd hl hn) (fun he w2 zs m2 hlz hres hk2 hz2 => ?_)
  exact hY w2 _ zs m2.bs m2.by_ hlz hres (nb hk2)
/-- a string of one octet many times -/
theorem filled_ok {z : Int} (hz : 0 ≤ z ∧ z ≤ 255) (hn : n ≤ 100000000000) (hK : ∀ w' b, Row w' b 5 ((List.replicate n z).map U8) → w.heap.size ≤ b → Kp (fun _ => False) w w' → K (sv b 0 n n) w') : cl Try.prog 66 #[I (n : Nat), U8 z] K w := by
  apply c66
  unfold s66_p4
  refine mks_r (n := n) (by omega) (by omega) fun w1 r1 hk1 hz1 => ?_
  show lnS (sv w.heap.size 0 n n) _ w1
  try simp only [e_fd, e_nck, e_pkt, e_pkf, e_gdtt, e_gdtf, e_gdft, e_gdff, e_ift, e_iff, e_not, e_ln, e_lnT, e_cp, e_cvi, e_ex20, e_ex21, e_ex30, e_ex31, e_ex32, e_add, e_sub, e_mul, e_quo, e_rem, e_and, e_or, e_xor, e_shl, e_shr, e_eql, e_neq, e_lss, e_leq, e_gtr, e_geq, e_beq, e_bne, e_peq1, e_peq2, e_pne1, e_pne2, e_zeq1, e_zeq2, e_zne1, e_zne2, e_feq1, e_fne1, e_feq2, e_fne2, e_seq, e_sne, e_ta1, e_ta2, Nat.zero_add, Nat.add_zero, Bool.not_true, Bool.not_false]
  unfold s66_p3
  refine ⟨fun m l w' => ∃ i : Nat, m + i = n ∧ l = [U8 z, sv w.heap.size 0 n n, I (n : Nat), I (i : Nat)] ∧ Row w' w.heap.size 5 ((List.replicate i z ++ List.replicate (n - i) 0).map U8) ∧ Kp (fun _ => False) w w', n, ⟨0, rfl, rfl, by simpa using r1, hk1⟩, ?_⟩
  rintro m l w2 ⟨i, hm, rfl, r2, hk2⟩
  rw [s66_p3_Fe]
  unfold s66_p2
  try simp only [e_fd, e_nck, e_pkt, e_pkf, e_gdtt, e_gdtf, e_gdft, e_gdff, e_ift, e_iff, e_not, e_ln, e_lnT, e_cp, e_cvi, e_ex20, e_ex21, e_ex30, e_ex31, e_ex32, e_add, e_sub, e_mul, e_quo, e_rem, e_and, e_or, e_xor, e_shl, e_shr, e_eql, e_neq, e_lss, e_leq, e_gtr, e_geq, e_beq, e_bne, e_peq1, e_peq2, e_pne1, e_pne2, e_zeq1, e_zeq2, e_zne1, e_zne2, e_feq1, e_fne1, e_feq2, e_fne2, e_seq, e_sne, e_ta1, e_ta2, Nat.zero_add, Nat.add_zero, Bool.not_true, Bool.not_false]
  by_cases hi : i < n
  · have hi' : ((i : Nat) : Int) < ((n : Nat) : Int) := by omega
    simp only [hi', decide_true, e_fd, e_nck, e_pkt, e_pkf, e_gdtt, e_gdtf, e_gdft, e_gdff, e_ift, e_iff, e_not, e_ln, e_lnT, e_cp, e_cvi, e_ex20, e_ex21, e_ex30, e_ex31, e_ex32, e_add, e_sub, e_mul, e_quo, e_rem, e_and, e_or, e_xor, e_shl, e_shr, e_eql, e_neq, e_lss, e_leq, e_gtr, e_geq, e_beq, e_bne, e_peq1, e_peq2, e_pne1, e_pne2, e_zeq1, e_zeq2, e_zne1, e_zne2, e_feq1, e_fne1, e_feq2, e_fne2, e_seq, e_sne, e_ta1, e_ta2, Nat.zero_add, Nat.add_zero, Bool.not_true, Bool.not_false]
    refine ix_sv hi rfl ?_
    refine st1_r r2 (by rw [List.length_map, List.length_append, List.length_replicate, List.length_replicate]; omega) rfl fun w3 r3 hk3 hz3 => ?_
    have el : ((List.replicate i z ++ List.replicate (n - i) 0).map U8).set (0 + i) (U8 z) = (List.replicate (i + 1) z ++ List.replicate (n - (i + 1)) 0).map U8 := by
      rw [Nat.zero_add, ← List.map_set, List.set_append_right _ _ (by rw [List.length_replicate]; omega), List.length_replicate, Nat.sub_self, show n - i = n - (i + 1) + 1 by omega, List.replicate_succ, List.set_cons_zero, List.replicate_succ' (n := i), List.append_assoc]
      rfl
    rw [el] at r3
    try simp only [e_fd, e_nck, e_pkt, e_pkf, e_gdtt, e_gdtf, e_gdft, e_gdff, e_ift, e_iff, e_not, e_ln, e_lnT, e_cp, e_cvi, e_ex20, e_ex21, e_ex30, e_ex31, e_ex32, e_add, e_sub, e_mul, e_quo, e_rem, e_and, e_or, e_xor, e_shl, e_shr, e_eql, e_neq, e_lss, e_leq, e_gtr, e_geq, e_beq, e_bne, e_peq1, e_peq2, e_pne1, e_pne2, e_zeq1, e_zeq2, e_zne1, e_zne2, e_feq1, e_fne1, e_feq2, e_fne2, e_seq, e_sne, e_ta1, e_ta2, Nat.zero_add, Nat.add_zero, Bool.not_true, Bool.not_false]
    rw [wrap64_id (by omega) (by omega)]
    exact ⟨m - 1, by omega, i + 1, by omega, by simp, r3, hk2.then hk3 (fun k hk (q : k = _) => by omega)⟩
  · have hi' : ¬ ((i : Nat) : Int) < ((n : Nat) : Int) := by omega
    simp only [hi', decide_false, e_fd, e_nck, e_pkt, e_pkf, e_gdtt, e_gdtf, e_gdft, e_gdff, e_ift, e_iff, e_not, e_ln, e_lnT, e_cp, e_cvi, e_ex20, e_ex21, e_ex30, e_ex31, e_ex32, e_add, e_sub, e_mul, e_quo, e_rem, e_and, e_or, e_xor, e_shl, e_shr, e_eql, e_neq, e_lss, e_leq, e_gtr, e_geq, e_beq, e_bne, e_peq1, e_peq2, e_pne1, e_pne2, e_zeq1, e_zeq2, e_zne1, e_zne2, e_feq1, e_fne1, e_feq2, e_fne2, e_seq, e_sne, e_ta1, e_ta2, Nat.zero_add, Nat.add_zero, Bool.not_true, Bool.not_false]
    unfold s66_p1
    have : i = n := by omega
    subst this
    rw [Nat.sub_self, List.replicate_zero, List.append_nil] at r2
    exact hK w2 w.heap.size r2 (Nat.le_refl _) hk2
end
end Go.Proofs.Qxb6500898a
