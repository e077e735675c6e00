import Derived.Test.Qxb6500896aGreatDoorK22
namespace Go.Proofs.Qxb6500896aGreatDoor
open Go.Sh Go.RowKit
set_option linter.unusedVariables false
set_option linter.unusedSimpArgs false

/-- what is still to be read, and whether there was a fault -/
abbrev RS := List Int × Bool
/-- a theorem is not looked into while a text is elaborated: so a match on it stays shut -/
theorem lock : True ∧ True := ⟨trivial, trivial⟩
def rNum (s : RS) : Nat × RS := match lock with
  | ⟨_, _⟩ => if (scan s.1).2.2 = 0 then ((scan s.1).1, s.1.drop (scan s.1).2.1, s.2) else (0, [], true)
theorem rNum_eq (s : RS) : rNum s = if (scan s.1).2.2 = 0 then ((scan s.1).1, s.1.drop (scan s.1).2.1, s.2) else (0, [], true) := by
  delta rNum
  generalize lock = l
  cases l
  rfl
def rOct (s : RS) : Int × RS := match s.1 with
  | [] => (0, [], true)
  | b :: q => (b, q, s.2)
def rUp (m : Nat) (s : RS) : Nat × RS := if m < (rNum s).1 then (0, [], true) else rNum s
def rLegsN : Nat → RS → List Leg × RS
  | 0, s => ([], s)
  | n + 1, s => (⟨((rNum s).1 : Nat), ((rNum (rNum s).2).1 : Nat)⟩ :: (rLegsN n (rNum (rNum s).2).2).1, (rLegsN n (rNum (rNum s).2).2).2)
def rLegs (m : Nat) (s : RS) : List Leg × RS := if (rUp m s).2.2 = true ∨ (rUp m s).1 = 0 then ([], (rUp m s).2) else rLegsN (rUp m s).1 (rUp m s).2
def rDone (s : RS) : Bool := !s.2 && s.1.isEmpty
/-- a reader in memory -/
def Rd (F : Nat → Prop) (w : World) (rb : Nat) (s : RS) : Prop :=
  ∃ bv pre, Row w rb 99 [bv, I (pre.length : Nat), .bool s.2] ∧ Ar bC 1 F w bv (pre ++ s.1) ∧ By (pre ++ s.1) ∧ ¬ F rb

theorem scanG_i : ∀ (f i a : Nat) (bs : List Int), (scanG f i a bs).2.2 = 0 → (scanG f i a bs).2.1 ≤ i + bs.length ∧ i < (scanG f i a bs).2.1
  | 0, i, a, bs, h => by simp [scanG] at h
  | f + 1, i, a, [], h => by simp [scanG] at h
  | f + 1, i, a, b :: bs, h => by
    rw [scanG] at h ⊢
    by_cases h1 : b < 128
    · rw [if_pos h1] at h ⊢
      by_cases h2 : b = 0 ∧ 0 < i
      · rw [if_pos h2] at h; simp at h
      · rw [if_neg h2]; simp only [List.length_cons]; omega
    · rw [if_neg h1] at h ⊢
      have := scanG_i f (i + 1) _ bs h
      simp only [List.length_cons]
      omega
theorem scan_w {bs : List Int} (h : (scan bs).2.2 = 0) : (scan bs).2.1 ≤ bs.length ∧ 0 < (scan bs).2.1 := by
  have := scanG_i 9 0 0 bs h
  unfold scan at *
  omega
theorem scanG_v : ∀ (f i a : Nat) (bs : List Int), a < 128 ^ i → i + f ≤ 9 → (scanG f i a bs).1 < 9223372036854775808
  | 0, i, a, bs, h, hf => by simp [scanG]
  | f + 1, i, a, [], h, hf => by simp [scanG]
  | f + 1, i, a, b :: bs, h, hf => by
    rw [scanG]
    have hal := acc_lt (i := i) h (Nat.mod_lt b.toNat (show 128 > 0 by decide))
    have hp := pow_le9 (i := i + 1) (by omega)
    by_cases h1 : b < 128
    · rw [if_pos h1]
      by_cases h2 : b = 0 ∧ 0 < i
      · rw [if_pos h2]; simp
      · rw [if_neg h2]; show _ < 9223372036854775808; omega
    · rw [if_neg h1]
      exact scanG_v f (i + 1) _ bs hal (by omega)
theorem scan_v (bs : List Int) : (scan bs).1 < 9223372036854775808 := scanG_v 9 0 0 bs (by decide) (by decide)
theorem rNum_v (s : RS) : (rNum s).1 < 9223372036854775808 := by
  rw [rNum_eq]
  split
  · exact scan_v _
  · simp
theorem rUp_v (m : Nat) (s : RS) : (rUp m s).1 ≤ m := by
  unfold rUp
  split
  · simp
  · omega
theorem rNum_By {s : RS} (h : By s.1) : By (rNum s).2.1 := by
  rw [rNum_eq]
  split
  · exact h.drop _
  · exact By.nil
theorem rUp_By {m : Nat} {s : RS} (h : By s.1) : By (rUp m s).2.1 := by
  unfold rUp
  split
  · exact By.nil
  · exact rNum_By h
section
variable {F S : Nat → Prop} {w w' : World} {v : Value} {rb : Nat} {s : RS} {K : Value → World → Prop}
theorem ex2_0 {a b : Value} : exq (.tuple #[a, b]) 0 K w = K a w := rfl
theorem ex2_1 {a b : Value} : exq (.tuple #[a, b]) 1 K w = K b w := rfl
theorem ex3_0 {a b c : Value} : exq (.tuple #[a, b, c]) 0 K w = K a w := rfl
theorem ex3_1 {a b c : Value} : exq (.tuple #[a, b, c]) 1 K w = K b w := rfl
theorem ex3_2 {a b c : Value} : exq (.tuple #[a, b, c]) 2 K w = K c w := rfl
theorem Rd.kp (h : Rd F w rb s) (hk : Kp S w w') (hn : ∀ b, F b → ¬ S b) (hr : ¬ S rb) : Rd F w' rb s := by
  obtain ⟨bv, pre, r, h1, h2, h3⟩ := h
  exact ⟨bv, pre, hk.row r hr, h1.kp hk hn, h2, h3⟩
theorem Rd.kp' (h : Rd F w rb s) (hk : Kp Emp w w') : Rd F w' rb s := h.kp hk (fun _ _ q => q) (fun q => q)
theorem Rd.lt (h : Rd F w rb s) : rb < w.heap.size := by
  obtain ⟨bv, pre, r, _⟩ := h
  exact r.lt
theorem Rd.by_ (h : Rd F w rb s) : By s.1 := by
  obtain ⟨bv, pre, r, h1, h2, h3⟩ := h
  exact fun x hx => h2 x (List.mem_append.2 (.inr hx))
abbrev RdK (F : Nat → Prop) (w : World) (rb : Nat) (s' : RS) (v : Value) (K : Value → World → Prop) : Prop := ∀ w', Rd F w' rb s' → Kp (fun b => b = rb) w w' → K v w'
theorem rd_new {xs : List Int} (h : Ar bC 1 F w v xs) (hb : By xs) (hF : ∀ b, F b → b < w.heap.size) {X : Value → World → Prop} (hX : ∀ w', Rd F w' w.heap.size (xs, false) → Kp Emp w w' → w'.heap.size = w.heap.size + 1 → X (P w.heap.size 0) w') :
    bdq [nilS, I 0, .bool false] [(some (0, 1), v)] (fun t w => nw 99 #[nilS, I 0, .bool false] (fun p w => stn 3 p t (fun w => X p w) w) w) w := by
  have hsv : scal v = true := h.scal
  have h' := h
  obtain ⟨a, cap, rfl⟩ := h'.form
  refine bdq_r (l := [.slice a xs.length cap, I 0, .bool false]) rfl ?_
  refine nw_r fun w1 r1 hk1 hz1 => ?_
  refine stn_r (cs := [.slice a xs.length cap, I 0, .bool false]) r1 rfl (show 0 + 3 ≤ 3 by decide) (by simp [scal]) fun w2 r2 hk2 hz2 => ?_
  replace r2 : Row w2 w.heap.size 99 [.slice a xs.length cap, I 0, .bool false] := r2
  have k2 : Kp Emp w w2 := hk1.then hk2 fun k hk (q : k = _) => by omega
  exact hX w2 ⟨_, [], r2, h.kp' k2, hb, fun q => by have := hF _ q; omega⟩ k2 (by omega)
theorem rfail_ok (h : Rd F w rb s) (hK : RdK F w rb ([], true) (.tuple #[]) K) : cl Tryz.prog 41 #[P rb 0] K w := by
  obtain ⟨bv, pre, r, h1, h2, h3⟩ := h
  apply c41
  unfold s41_p1
  try simp only [e_fd, e_nck, e_pkt, e_pkf, e_gdtt, e_gdtf, e_gdft, e_gdff, e_ift, e_iff, e_not, e_ln, e_lnT, e_cp, e_cvi, e_ex20, e_ex21, e_ex30, e_ex31, e_ex32, e_add, e_sub, e_mul, e_quo, e_rem, e_and, e_or, e_xor, e_shl, e_shr, e_eql, e_neq, e_lss, e_leq, e_gtr, e_geq, e_beq, e_bne, e_peq1, e_peq2, e_pne1, e_pne2, e_zeq1, e_zeq2, e_zne1, e_zne2, e_feq1, e_fne1, e_feq2, e_fne2, e_seq, e_sne, e_ta1, e_ta2, Nat.zero_add, Nat.add_zero, Bool.not_true, Bool.not_false]
  refine st1_r r (by simp) rfl fun w1 r1 hk1 hz1 => ?_
  try simp only [e_fd, e_nck, e_pkt, e_pkf, e_gdtt, e_gdtf, e_gdft, e_gdff, e_ift, e_iff, e_not, e_ln, e_lnT, e_cp, e_cvi, e_ex20, e_ex21, e_ex30, e_ex31, e_ex32, e_add, e_sub, e_mul, e_quo, e_rem, e_and, e_or, e_xor, e_shl, e_shr, e_eql, e_neq, e_lss, e_leq, e_gtr, e_geq, e_beq, e_bne, e_peq1, e_peq2, e_pne1, e_pne2, e_zeq1, e_zeq2, e_zne1, e_zne2, e_feq1, e_fne1, e_feq2, e_fne2, e_seq, e_sne, e_ta1, e_ta2, Nat.zero_add, Nat.add_zero, Bool.not_true, Bool.not_false]
  refine ld1_r r1 rfl ?_
  refine h1.ln ?_
  try simp only [e_fd, e_nck, e_pkt, e_pkf, e_gdtt, e_gdtf, e_gdft, e_gdff, e_ift, e_iff, e_not, e_ln, e_lnT, e_cp, e_cvi, e_ex20, e_ex21, e_ex30, e_ex31, e_ex32, e_add, e_sub, e_mul, e_quo, e_rem, e_and, e_or, e_xor, e_shl, e_shr, e_eql, e_neq, e_lss, e_leq, e_gtr, e_geq, e_beq, e_bne, e_peq1, e_peq2, e_pne1, e_pne2, e_zeq1, e_zeq2, e_zne1, e_zne2, e_feq1, e_fne1, e_feq2, e_fne2, e_seq, e_sne, e_ta1, e_ta2, Nat.zero_add, Nat.add_zero, Bool.not_true, Bool.not_false]
  refine st1_r r1 (by simp) rfl fun w2 r2 hk2 hz2 => ?_
  have k2 : Kp (fun b => b = rb) w w2 := hk1.trans hk2
  exact hK w2 ⟨bv, pre ++ s.1, r2, by rw [List.append_nil]; exact h1.kp k2 (fun b hb q => h3 (q ▸ hb)), by rw [List.append_nil]; exact h2, h3⟩ k2
theorem roct_ok (h : Rd F w rb s) (hK : RdK F w rb (rOct s).2 (U8 (rOct s).1) K) : cl Tryz.prog 38 #[P rb 0] K w := by
  have h0 := h
  obtain ⟨bv, pre, r, h1, h2, h3⟩ := h
  have hl := h1.len
  apply c38
  unfold s38_p5 s38_p4 s38_p4_d
  have kd : Kp Emp w (drw w) := kp_drw
  generalize drw w = w0 at kd ⊢
  have r0 := kd.row' r
  try simp only [e_fd, e_nck, e_pkt, e_pkf, e_gdtt, e_gdtf, e_gdft, e_gdff, e_ift, e_iff, e_not, e_ln, e_lnT, e_cp, e_cvi, e_ex20, e_ex21, e_ex30, e_ex31, e_ex32, e_add, e_sub, e_mul, e_quo, e_rem, e_and, e_or, e_xor, e_shl, e_shr, e_eql, e_neq, e_lss, e_leq, e_gtr, e_geq, e_beq, e_bne, e_peq1, e_peq2, e_pne1, e_pne2, e_zeq1, e_zeq2, e_zne1, e_zne2, e_feq1, e_fne1, e_feq2, e_fne2, e_seq, e_sne, e_ta1, e_ta2, Nat.zero_add, Nat.add_zero, Bool.not_true, Bool.not_false]
  refine ld1_r r0 rfl ?_
  try simp only [e_fd, e_nck, e_pkt, e_pkf, e_gdtt, e_gdtf, e_gdft, e_gdff, e_ift, e_iff, e_not, e_ln, e_lnT, e_cp, e_cvi, e_ex20, e_ex21, e_ex30, e_ex31, e_ex32, e_add, e_sub, e_mul, e_quo, e_rem, e_and, e_or, e_xor, e_shl, e_shr, e_eql, e_neq, e_lss, e_leq, e_gtr, e_geq, e_beq, e_bne, e_peq1, e_peq2, e_pne1, e_pne2, e_zeq1, e_zeq2, e_zne1, e_zne2, e_feq1, e_fne1, e_feq2, e_fne2, e_seq, e_sne, e_ta1, e_ta2, Nat.zero_add, Nat.add_zero, Bool.not_true, Bool.not_false]
  refine ld1_r r0 rfl ?_
  refine h1.ln ?_
  try simp only [e_fd, e_nck, e_pkt, e_pkf, e_gdtt, e_gdtf, e_gdft, e_gdff, e_ift, e_iff, e_not, e_ln, e_lnT, e_cp, e_cvi, e_ex20, e_ex21, e_ex30, e_ex31, e_ex32, e_add, e_sub, e_mul, e_quo, e_rem, e_and, e_or, e_xor, e_shl, e_shr, e_eql, e_neq, e_lss, e_leq, e_gtr, e_geq, e_beq, e_bne, e_peq1, e_peq2, e_pne1, e_pne2, e_zeq1, e_zeq2, e_zne1, e_zne2, e_feq1, e_fne1, e_feq2, e_fne2, e_seq, e_sne, e_ta1, e_ta2, Nat.zero_add, Nat.add_zero, Bool.not_true, Bool.not_false]
  unfold s38_p3
  rw [List.length_append] at hl ⊢
  cases hs : s.1 with
  | nil =>
    have e1 : (((pre.length + ([] : List Int).length : Nat)) : Int) ≤ ((pre.length : Nat) : Int) := by simp
    simp only [e1, decide_true, e_fd, e_nck, e_pkt, e_pkf, e_gdtt, e_gdtf, e_gdft, e_gdff, e_ift, e_iff, e_not, e_ln, e_lnT, e_cp, e_cvi, e_ex20, e_ex21, e_ex30, e_ex31, e_ex32, e_add, e_sub, e_mul, e_quo, e_rem, e_and, e_or, e_xor, e_shl, e_shr, e_eql, e_neq, e_lss, e_leq, e_gtr, e_geq, e_beq, e_bne, e_peq1, e_peq2, e_pne1, e_pne2, e_zeq1, e_zeq2, e_zne1, e_zne2, e_feq1, e_fne1, e_feq2, e_fne2, e_seq, e_sne, e_ta1, e_ta2, Nat.zero_add, Nat.add_zero, Bool.not_true, Bool.not_false]
    refine rfail_ok (h0.kp' kd) fun w2 r2 hk2 => ?_
    unfold rOct at hK
    rw [hs] at hK
    exact hK w2 r2 (kd.none.trans hk2)
  | cons b q =>
    have e1 : ¬ (((pre.length + (b :: q).length : Nat)) : Int) ≤ ((pre.length : Nat) : Int) := by rw [List.length_cons]; omega
    simp only [e1, decide_false, e_fd, e_nck, e_pkt, e_pkf, e_gdtt, e_gdtf, e_gdft, e_gdff, e_ift, e_iff, e_not, e_ln, e_lnT, e_cp, e_cvi, e_ex20, e_ex21, e_ex30, e_ex31, e_ex32, e_add, e_sub, e_mul, e_quo, e_rem, e_and, e_or, e_xor, e_shl, e_shr, e_eql, e_neq, e_lss, e_leq, e_gtr, e_geq, e_beq, e_bne, e_peq1, e_peq2, e_pne1, e_pne2, e_zeq1, e_zeq2, e_zne1, e_zne2, e_feq1, e_fne1, e_feq2, e_fne2, e_seq, e_sne, e_ta1, e_ta2, Nat.zero_add, Nat.add_zero, Bool.not_true, Bool.not_false]
    unfold s38_p2 s38_p2_d
    have kd' : Kp Emp w0 (drw w0) := kp_drw
    generalize drw w0 = w1 at kd' ⊢
    have k1 := kd.trans kd'
    have r1 := kd'.row' r0
    have h1' := h1.kp' k1
    rw [hs] at h1' h2 hl
    rw [List.length_cons] at hl
    try simp only [e_fd, e_nck, e_pkt, e_pkf, e_gdtt, e_gdtf, e_gdft, e_gdff, e_ift, e_iff, e_not, e_ln, e_lnT, e_cp, e_cvi, e_ex20, e_ex21, e_ex30, e_ex31, e_ex32, e_add, e_sub, e_mul, e_quo, e_rem, e_and, e_or, e_xor, e_shl, e_shr, e_eql, e_neq, e_lss, e_leq, e_gtr, e_geq, e_beq, e_bne, e_peq1, e_peq2, e_pne1, e_pne2, e_zeq1, e_zeq2, e_zne1, e_zne2, e_feq1, e_fne1, e_feq2, e_fne2, e_seq, e_sne, e_ta1, e_ta2, Nat.zero_add, Nat.add_zero, Bool.not_true, Bool.not_false]
    refine ld1_r r1 rfl ?_
    try simp only [e_fd, e_nck, e_pkt, e_pkf, e_gdtt, e_gdtf, e_gdft, e_gdff, e_ift, e_iff, e_not, e_ln, e_lnT, e_cp, e_cvi, e_ex20, e_ex21, e_ex30, e_ex31, e_ex32, e_add, e_sub, e_mul, e_quo, e_rem, e_and, e_or, e_xor, e_shl, e_shr, e_eql, e_neq, e_lss, e_leq, e_gtr, e_geq, e_beq, e_bne, e_peq1, e_peq2, e_pne1, e_pne2, e_zeq1, e_zeq2, e_zne1, e_zne2, e_feq1, e_fne1, e_feq2, e_fne2, e_seq, e_sne, e_ta1, e_ta2, Nat.zero_add, Nat.add_zero, Bool.not_true, Bool.not_false]
    refine ld1_r r1 rfl ?_
    refine h1'.ix (i := pre.length) (by simp) fun b' o hF hcl => ?_
    refine hcl.ld0 rfl ?_
    unfold s38_p1
    try simp only [e_fd, e_nck, e_pkt, e_pkf, e_gdtt, e_gdtf, e_gdft, e_gdff, e_ift, e_iff, e_not, e_ln, e_lnT, e_cp, e_cvi, e_ex20, e_ex21, e_ex30, e_ex31, e_ex32, e_add, e_sub, e_mul, e_quo, e_rem, e_and, e_or, e_xor, e_shl, e_shr, e_eql, e_neq, e_lss, e_leq, e_gtr, e_geq, e_beq, e_bne, e_peq1, e_peq2, e_pne1, e_pne2, e_zeq1, e_zeq2, e_zne1, e_zne2, e_feq1, e_fne1, e_feq2, e_fne2, e_seq, e_sne, e_ta1, e_ta2, Nat.zero_add, Nat.add_zero, Bool.not_true, Bool.not_false]
    refine ld1_r r1 rfl ?_
    try simp only [e_fd, e_nck, e_pkt, e_pkf, e_gdtt, e_gdtf, e_gdft, e_gdff, e_ift, e_iff, e_not, e_ln, e_lnT, e_cp, e_cvi, e_ex20, e_ex21, e_ex30, e_ex31, e_ex32, e_add, e_sub, e_mul, e_quo, e_rem, e_and, e_or, e_xor, e_shl, e_shr, e_eql, e_neq, e_lss, e_leq, e_gtr, e_geq, e_beq, e_bne, e_peq1, e_peq2, e_pne1, e_pne2, e_zeq1, e_zeq2, e_zne1, e_zne2, e_feq1, e_fne1, e_feq2, e_fne2, e_seq, e_sne, e_ta1, e_ta2, Nat.zero_add, Nat.add_zero, Bool.not_true, Bool.not_false]
    rw [inc pre.length (by omega)]
    refine st1_r r1 (by simp) rfl fun w2 r2 hk2 hz2 => ?_
    unfold rOct at hK
    rw [hs] at hK
    have eb : (pre ++ b :: q)[pre.length]'(by simp) = b := by simp
    rw [eb]
    refine hK w2 ⟨bv, pre ++ [b], by rw [List.length_append]; exact r2, ?_, ?_, h3⟩ (k1.none.trans hk2)
    · rw [List.append_assoc]; exact h1'.kp hk2 (fun b hb q => h3 (q ▸ hb))
    · rw [List.append_assoc]; exact h2
theorem rnum_ok (h : Rd F w rb s) (hK : RdK F w rb (rNum s).2 (I ((rNum s).1 : Nat)) K) : cl Tryz.prog 39 #[P rb 0] K w := by
  have h0 := h
  obtain ⟨bv, pre, r, h1, h2, h3⟩ := h
  have hl := h1.len
  have hby := h0.by_
  apply c39
  unfold s39_p3 s39_p2 s39_p2_d
  have kd : Kp Emp w (drw w) := kp_drw
  generalize drw w = w0 at kd ⊢
  have r0 := kd.row' r
  have h1' := h1.kp' kd
  try simp only [e_fd, e_nck, e_pkt, e_pkf, e_gdtt, e_gdtf, e_gdft, e_gdff, e_ift, e_iff, e_not, e_ln, e_lnT, e_cp, e_cvi, e_ex20, e_ex21, e_ex30, e_ex31, e_ex32, e_add, e_sub, e_mul, e_quo, e_rem, e_and, e_or, e_xor, e_shl, e_shr, e_eql, e_neq, e_lss, e_leq, e_gtr, e_geq, e_beq, e_bne, e_peq1, e_peq2, e_pne1, e_pne2, e_zeq1, e_zeq2, e_zne1, e_zne2, e_feq1, e_fne1, e_feq2, e_fne2, e_seq, e_sne, e_ta1, e_ta2, Nat.zero_add, Nat.add_zero, Bool.not_true, Bool.not_false]
  refine ld1_r r0 rfl ?_
  try simp only [e_fd, e_nck, e_pkt, e_pkf, e_gdtt, e_gdtf, e_gdft, e_gdff, e_ift, e_iff, e_not, e_ln, e_lnT, e_cp, e_cvi, e_ex20, e_ex21, e_ex30, e_ex31, e_ex32, e_add, e_sub, e_mul, e_quo, e_rem, e_and, e_or, e_xor, e_shl, e_shr, e_eql, e_neq, e_lss, e_leq, e_gtr, e_geq, e_beq, e_bne, e_peq1, e_peq2, e_pne1, e_pne2, e_zeq1, e_zeq2, e_zne1, e_zne2, e_feq1, e_fne1, e_feq2, e_fne2, e_seq, e_sne, e_ta1, e_ta2, Nat.zero_add, Nat.add_zero, Bool.not_true, Bool.not_false]
  refine ld1_r r0 rfl ?_
  rw [List.length_append] at hl
  refine Ar.sub h1' (lo := pre.length) (hi := (pre ++ s.1).length) (by simp) (Nat.le_refl _) rfl (fun a c e => rfl) fun v' hv' => ?_
  have e0 : ((pre ++ s.1).drop pre.length).take ((pre ++ s.1).length - pre.length) = s.1 := by simp
  rw [e0] at hv'
  refine scanN_ok hv' hby ?_
  have key : s39_p1 K (P rb 0) (I ((scan s.1).1 : Nat)) (I ((scan s.1).2.1 : Nat)) (I ((scan s.1).2.2 : Nat)) w0 := by
    unfold s39_p1
    try simp only [e_fd, e_nck, e_pkt, e_pkf, e_gdtt, e_gdtf, e_gdft, e_gdff, e_ift, e_iff, e_not, e_ln, e_lnT, e_cp, e_cvi, e_ex20, e_ex21, e_ex30, e_ex31, e_ex32, e_add, e_sub, e_mul, e_quo, e_rem, e_and, e_or, e_xor, e_shl, e_shr, e_eql, e_neq, e_lss, e_leq, e_gtr, e_geq, e_beq, e_bne, e_peq1, e_peq2, e_pne1, e_pne2, e_zeq1, e_zeq2, e_zne1, e_zne2, e_feq1, e_fne1, e_feq2, e_fne2, e_seq, e_sne, e_ta1, e_ta2, Nat.zero_add, Nat.add_zero, Bool.not_true, Bool.not_false]
    rw [rNum_eq] at hK
    by_cases hc : (scan s.1).2.2 = 0
    · obtain ⟨hw1, hw2⟩ := scan_w hc
      rw [if_pos hc] at hK
      have e1 : ((((scan s.1).2.2 : Nat) : Int) != 0) = false := by rw [hc]; rfl
      simp only [e1, e_fd, e_nck, e_pkt, e_pkf, e_gdtt, e_gdtf, e_gdft, e_gdff, e_ift, e_iff, e_not, e_ln, e_lnT, e_cp, e_cvi, e_ex20, e_ex21, e_ex30, e_ex31, e_ex32, e_add, e_sub, e_mul, e_quo, e_rem, e_and, e_or, e_xor, e_shl, e_shr, e_eql, e_neq, e_lss, e_leq, e_gtr, e_geq, e_beq, e_bne, e_peq1, e_peq2, e_pne1, e_pne2, e_zeq1, e_zeq2, e_zne1, e_zne2, e_feq1, e_fne1, e_feq2, e_fne2, e_seq, e_sne, e_ta1, e_ta2, Nat.zero_add, Nat.add_zero, Bool.not_true, Bool.not_false]
      refine ld1_r r0 rfl ?_
      try simp only [e_fd, e_nck, e_pkt, e_pkf, e_gdtt, e_gdtf, e_gdft, e_gdff, e_ift, e_iff, e_not, e_ln, e_lnT, e_cp, e_cvi, e_ex20, e_ex21, e_ex30, e_ex31, e_ex32, e_add, e_sub, e_mul, e_quo, e_rem, e_and, e_or, e_xor, e_shl, e_shr, e_eql, e_neq, e_lss, e_leq, e_gtr, e_geq, e_beq, e_bne, e_peq1, e_peq2, e_pne1, e_pne2, e_zeq1, e_zeq2, e_zne1, e_zne2, e_feq1, e_fne1, e_feq2, e_fne2, e_seq, e_sne, e_ta1, e_ta2, Nat.zero_add, Nat.add_zero, Bool.not_true, Bool.not_false]
      rw [wrap64_id (by omega) (by omega)]
      refine st1_r r0 (by simp) rfl fun w2 r2 hk2 hz2 => ?_
      have hpl : (pre ++ s.1.take (scan s.1).2.1).length = pre.length + (scan s.1).2.1 := by rw [List.length_append, List.length_take]; omega
      refine hK w2 ⟨bv, pre ++ s.1.take (scan s.1).2.1, by rw [hpl]; exact r2, ?_, ?_, h3⟩ (kd.none.trans hk2)
      · rw [List.append_assoc, List.take_append_drop]; exact h1'.kp hk2 (fun b hb q => h3 (q ▸ hb))
      · rw [List.append_assoc, List.take_append_drop]; exact h2
    · rw [if_neg hc] at hK
      have e1 : ((((scan s.1).2.2 : Nat) : Int) != 0) = true := by rw [bne_iff_ne]; omega
      simp only [e1, e_fd, e_nck, e_pkt, e_pkf, e_gdtt, e_gdtf, e_gdft, e_gdff, e_ift, e_iff, e_not, e_ln, e_lnT, e_cp, e_cvi, e_ex20, e_ex21, e_ex30, e_ex31, e_ex32, e_add, e_sub, e_mul, e_quo, e_rem, e_and, e_or, e_xor, e_shl, e_shr, e_eql, e_neq, e_lss, e_leq, e_gtr, e_geq, e_beq, e_bne, e_peq1, e_peq2, e_pne1, e_pne2, e_zeq1, e_zeq2, e_zne1, e_zne2, e_feq1, e_fne1, e_feq2, e_fne2, e_seq, e_sne, e_ta1, e_ta2, Nat.zero_add, Nat.add_zero, Bool.not_true, Bool.not_false]
      refine rfail_ok (h0.kp' kd) fun w2 r2 hk2 => ?_
      exact hK w2 r2 (kd.none.trans hk2)
  simp only [ex3_0, ex3_1, ex3_2, and_self]
  exact key
theorem rup_ok {m : Nat} (hm : m ≤ 9223372036854775807) (h : Rd F w rb s) (hK : RdK F w rb (rUp m s).2 (I ((rUp m s).1 : Nat)) K) : cl Tryz.prog 43 #[P rb 0, I (m : Nat)] K w := by
  apply c43
  unfold s43_p1
  refine rnum_ok h fun w1 r1 hk1 => ?_
  unfold rUp at hK
  try simp only [e_fd, e_nck, e_pkt, e_pkf, e_gdtt, e_gdtf, e_gdft, e_gdff, e_ift, e_iff, e_not, e_ln, e_lnT, e_cp, e_cvi, e_ex20, e_ex21, e_ex30, e_ex31, e_ex32, e_add, e_sub, e_mul, e_quo, e_rem, e_and, e_or, e_xor, e_shl, e_shr, e_eql, e_neq, e_lss, e_leq, e_gtr, e_geq, e_beq, e_bne, e_peq1, e_peq2, e_pne1, e_pne2, e_zeq1, e_zeq2, e_zne1, e_zne2, e_feq1, e_fne1, e_feq2, e_fne2, e_seq, e_sne, e_ta1, e_ta2, Nat.zero_add, Nat.add_zero, Bool.not_true, Bool.not_false]
  by_cases hc : m < (rNum s).1
  · rw [if_pos hc] at hK
    rw [dlt hc]
    try simp only [e_fd, e_nck, e_pkt, e_pkf, e_gdtt, e_gdtf, e_gdft, e_gdff, e_ift, e_iff, e_not, e_ln, e_lnT, e_cp, e_cvi, e_ex20, e_ex21, e_ex30, e_ex31, e_ex32, e_add, e_sub, e_mul, e_quo, e_rem, e_and, e_or, e_xor, e_shl, e_shr, e_eql, e_neq, e_lss, e_leq, e_gtr, e_geq, e_beq, e_bne, e_peq1, e_peq2, e_pne1, e_pne2, e_zeq1, e_zeq2, e_zne1, e_zne2, e_feq1, e_fne1, e_feq2, e_fne2, e_seq, e_sne, e_ta1, e_ta2, Nat.zero_add, Nat.add_zero, Bool.not_true, Bool.not_false]
    refine rfail_ok r1 fun w2 r2 hk2 => ?_
    exact hK w2 r2 (hk1.trans hk2)
  · rw [if_neg hc] at hK
    rw [show decide (((m : Nat) : Int) < (((rNum s).1 : Nat) : Int)) = false from decide_eq_false (by omega)]
    try simp only [e_fd, e_nck, e_pkt, e_pkf, e_gdtt, e_gdtf, e_gdft, e_gdff, e_ift, e_iff, e_not, e_ln, e_lnT, e_cp, e_cvi, e_ex20, e_ex21, e_ex30, e_ex31, e_ex32, e_add, e_sub, e_mul, e_quo, e_rem, e_and, e_or, e_xor, e_shl, e_shr, e_eql, e_neq, e_lss, e_leq, e_gtr, e_geq, e_beq, e_bne, e_peq1, e_peq2, e_pne1, e_pne2, e_zeq1, e_zeq2, e_zne1, e_zne2, e_feq1, e_fne1, e_feq2, e_fne2, e_seq, e_sne, e_ta1, e_ta2, Nat.zero_add, Nat.add_zero, Bool.not_true, Bool.not_false]
    exact hK w1 r1 hk1
theorem rdone_ok (h : Rd F w rb s) (hK : ∀ w', Kp Emp w w' → K (.bool (rDone s)) w') : cl Tryz.prog 42 #[P rb 0] K w := by
  obtain ⟨bv, pre, r, h1, h2, h3⟩ := h
  apply c42
  unfold s42_p3 s42_p2 s42_p2_d
  have kd : Kp Emp w (drw w) := kp_drw
  generalize drw w = w0 at kd ⊢
  have r0 := kd.row' r
  have hK := hK w0 kd
  unfold rDone at hK
  try simp only [e_fd, e_nck, e_pkt, e_pkf, e_gdtt, e_gdtf, e_gdft, e_gdff, e_ift, e_iff, e_not, e_ln, e_lnT, e_cp, e_cvi, e_ex20, e_ex21, e_ex30, e_ex31, e_ex32, e_add, e_sub, e_mul, e_quo, e_rem, e_and, e_or, e_xor, e_shl, e_shr, e_eql, e_neq, e_lss, e_leq, e_gtr, e_geq, e_beq, e_bne, e_peq1, e_peq2, e_pne1, e_pne2, e_zeq1, e_zeq2, e_zne1, e_zne2, e_feq1, e_fne1, e_feq2, e_fne2, e_seq, e_sne, e_ta1, e_ta2, Nat.zero_add, Nat.add_zero, Bool.not_true, Bool.not_false]
  refine ld1_r r0 rfl ?_
  cases hb : s.2 with
  | true =>
    rw [hb] at hK
    simp only [Bool.not_true, Bool.false_and, e_fd, e_nck, e_pkt, e_pkf, e_gdtt, e_gdtf, e_gdft, e_gdff, e_ift, e_iff, e_not, e_ln, e_lnT, e_cp, e_cvi, e_ex20, e_ex21, e_ex30, e_ex31, e_ex32, e_add, e_sub, e_mul, e_quo, e_rem, e_and, e_or, e_xor, e_shl, e_shr, e_eql, e_neq, e_lss, e_leq, e_gtr, e_geq, e_beq, e_bne, e_peq1, e_peq2, e_pne1, e_pne2, e_zeq1, e_zeq2, e_zne1, e_zne2, e_feq1, e_fne1, e_feq2, e_fne2, e_seq, e_sne, e_ta1, e_ta2, Nat.zero_add, Nat.add_zero, Bool.not_true, Bool.not_false] at hK ⊢
    unfold s42_p1
    exact hK
  | false =>
    rw [hb] at hK
    simp only [Bool.not_false, Bool.true_and, e_fd, e_nck, e_pkt, e_pkf, e_gdtt, e_gdtf, e_gdft, e_gdff, e_ift, e_iff, e_not, e_ln, e_lnT, e_cp, e_cvi, e_ex20, e_ex21, e_ex30, e_ex31, e_ex32, e_add, e_sub, e_mul, e_quo, e_rem, e_and, e_or, e_xor, e_shl, e_shr, e_eql, e_neq, e_lss, e_leq, e_gtr, e_geq, e_beq, e_bne, e_peq1, e_peq2, e_pne1, e_pne2, e_zeq1, e_zeq2, e_zne1, e_zne2, e_feq1, e_fne1, e_feq2, e_fne2, e_seq, e_sne, e_ta1, e_ta2, Nat.zero_add, Nat.add_zero, Bool.not_true, Bool.not_false] at hK ⊢
    refine ld1_r r0 rfl ?_
    try simp only [e_fd, e_nck, e_pkt, e_pkf, e_gdtt, e_gdtf, e_gdft, e_gdff, e_ift, e_iff, e_not, e_ln, e_lnT, e_cp, e_cvi, e_ex20, e_ex21, e_ex30, e_ex31, e_ex32, e_add, e_sub, e_mul, e_quo, e_rem, e_and, e_or, e_xor, e_shl, e_shr, e_eql, e_neq, e_lss, e_leq, e_gtr, e_geq, e_beq, e_bne, e_peq1, e_peq2, e_pne1, e_pne2, e_zeq1, e_zeq2, e_zne1, e_zne2, e_feq1, e_fne1, e_feq2, e_fne2, e_seq, e_sne, e_ta1, e_ta2, Nat.zero_add, Nat.add_zero, Bool.not_true, Bool.not_false]
    refine ld1_r r0 rfl ?_
    try simp only [e_fd, e_nck, e_pkt, e_pkf, e_gdtt, e_gdtf, e_gdft, e_gdff, e_ift, e_iff, e_not, e_ln, e_lnT, e_cp, e_cvi, e_ex20, e_ex21, e_ex30, e_ex31, e_ex32, e_add, e_sub, e_mul, e_quo, e_rem, e_and, e_or, e_xor, e_shl, e_shr, e_eql, e_neq, e_lss, e_leq, e_gtr, e_geq, e_beq, e_bne, e_peq1, e_peq2, e_pne1, e_pne2, e_zeq1, e_zeq2, e_zne1, e_zne2, e_feq1, e_fne1, e_feq2, e_fne2, e_seq, e_sne, e_ta1, e_ta2, Nat.zero_add, Nat.add_zero, Bool.not_true, Bool.not_false]
    refine h1.ln ?_
    try simp only [e_fd, e_nck, e_pkt, e_pkf, e_gdtt, e_gdtf, e_gdft, e_gdff, e_ift, e_iff, e_not, e_ln, e_lnT, e_cp, e_cvi, e_ex20, e_ex21, e_ex30, e_ex31, e_ex32, e_add, e_sub, e_mul, e_quo, e_rem, e_and, e_or, e_xor, e_shl, e_shr, e_eql, e_neq, e_lss, e_leq, e_gtr, e_geq, e_beq, e_bne, e_peq1, e_peq2, e_pne1, e_pne2, e_zeq1, e_zeq2, e_zne1, e_zne2, e_feq1, e_fne1, e_feq2, e_fne2, e_seq, e_sne, e_ta1, e_ta2, Nat.zero_add, Nat.add_zero, Bool.not_true, Bool.not_false]
    unfold s42_p1
    have e1 : (((pre.length : Nat) : Int) == (((pre ++ s.1).length : Nat) : Int)) = s.1.isEmpty := by
      cases hs : s.1 with
      | nil => simp
      | cons b q =>
        show _ = false
        rw [beq_eq_false_iff_ne, List.length_append, List.length_cons]
        omega
    rw [e1]
    exact hK
theorem rrest_ok (h : Rd F w rb s) (hK : ∀ w' v', Rd F w' rb ([], s.2) → Ar bC 1 F w' v' s.1 → Kp (fun b => b = rb) w w' → K v' w') : cl Tryz.prog 112 #[P rb 0] K w := by
  obtain ⟨bv, pre, r, h1, h2, h3⟩ := h
  have hl := h1.len
  apply c112
  unfold s112_p3 s112_p2 s112_p2_d
  have kd : Kp Emp w (drw w) := kp_drw
  generalize drw w = w0 at kd ⊢
  have r0 := kd.row' r
  have h1' := h1.kp' kd
  try simp only [e_fd, e_nck, e_pkt, e_pkf, e_gdtt, e_gdtf, e_gdft, e_gdff, e_ift, e_iff, e_not, e_ln, e_lnT, e_cp, e_cvi, e_ex20, e_ex21, e_ex30, e_ex31, e_ex32, e_add, e_sub, e_mul, e_quo, e_rem, e_and, e_or, e_xor, e_shl, e_shr, e_eql, e_neq, e_lss, e_leq, e_gtr, e_geq, e_beq, e_bne, e_peq1, e_peq2, e_pne1, e_pne2, e_zeq1, e_zeq2, e_zne1, e_zne2, e_feq1, e_fne1, e_feq2, e_fne2, e_seq, e_sne, e_ta1, e_ta2, Nat.zero_add, Nat.add_zero, Bool.not_true, Bool.not_false]
  refine ld1_r r0 rfl ?_
  try simp only [e_fd, e_nck, e_pkt, e_pkf, e_gdtt, e_gdtf, e_gdft, e_gdff, e_ift, e_iff, e_not, e_ln, e_lnT, e_cp, e_cvi, e_ex20, e_ex21, e_ex30, e_ex31, e_ex32, e_add, e_sub, e_mul, e_quo, e_rem, e_and, e_or, e_xor, e_shl, e_shr, e_eql, e_neq, e_lss, e_leq, e_gtr, e_geq, e_beq, e_bne, e_peq1, e_peq2, e_pne1, e_pne2, e_zeq1, e_zeq2, e_zne1, e_zne2, e_feq1, e_fne1, e_feq2, e_fne2, e_seq, e_sne, e_ta1, e_ta2, Nat.zero_add, Nat.add_zero, Bool.not_true, Bool.not_false]
  refine ld1_r r0 rfl ?_
  rw [List.length_append] at hl
  refine Ar.sub h1' (lo := pre.length) (hi := (pre ++ s.1).length) (by simp) (Nat.le_refl _) rfl (fun a c e => rfl) fun v' hv' => ?_
  have e0 : ((pre ++ s.1).drop pre.length).take ((pre ++ s.1).length - pre.length) = s.1 := by simp
  rw [e0] at hv'
  unfold s112_p1
  try simp only [e_fd, e_nck, e_pkt, e_pkf, e_gdtt, e_gdtf, e_gdft, e_gdff, e_ift, e_iff, e_not, e_ln, e_lnT, e_cp, e_cvi, e_ex20, e_ex21, e_ex30, e_ex31, e_ex32, e_add, e_sub, e_mul, e_quo, e_rem, e_and, e_or, e_xor, e_shl, e_shr, e_eql, e_neq, e_lss, e_leq, e_gtr, e_geq, e_beq, e_bne, e_peq1, e_peq2, e_pne1, e_pne2, e_zeq1, e_zeq2, e_zne1, e_zne2, e_feq1, e_fne1, e_feq2, e_fne2, e_seq, e_sne, e_ta1, e_ta2, Nat.zero_add, Nat.add_zero, Bool.not_true, Bool.not_false]
  refine ld1_r r0 rfl ?_
  refine h1'.ln ?_
  try simp only [e_fd, e_nck, e_pkt, e_pkf, e_gdtt, e_gdtf, e_gdft, e_gdff, e_ift, e_iff, e_not, e_ln, e_lnT, e_cp, e_cvi, e_ex20, e_ex21, e_ex30, e_ex31, e_ex32, e_add, e_sub, e_mul, e_quo, e_rem, e_and, e_or, e_xor, e_shl, e_shr, e_eql, e_neq, e_lss, e_leq, e_gtr, e_geq, e_beq, e_bne, e_peq1, e_peq2, e_pne1, e_pne2, e_zeq1, e_zeq2, e_zne1, e_zne2, e_feq1, e_fne1, e_feq2, e_fne2, e_seq, e_sne, e_ta1, e_ta2, Nat.zero_add, Nat.add_zero, Bool.not_true, Bool.not_false]
  refine st1_r r0 (by simp) rfl fun w2 r2 hk2 hz2 => ?_
  have nF : ∀ b, F b → ¬ b = rb := fun b hb q => h3 (q ▸ hb)
  exact hK w2 v' ⟨bv, pre ++ s.1, r2, by rw [List.append_nil]; exact h1'.kp hk2 nF, by rw [List.append_nil]; exact h2, h3⟩ (hv'.kp hk2 nF) (kd.none.trans hk2)
end
end Go.Proofs.Qxb6500896aGreatDoor
