import Derived.Test.Qxb6500893aDoorA4
namespace Go.Proofs.Qxb6500893aDoor
open Go.Sh Go.RowKit
set_option linter.unusedVariables false
set_option linter.unusedSimpArgs false

def puts (A : Ar) (l : List (Nat × Nat)) : Ar := l.foldl (fun A p => put A p.1 p.2) A
theorem puts_app (A : Ar) (l m : List (Nat × Nat)) : puts A (l ++ m) = puts (puts A l) m := by unfold puts; rw [List.foldl_append]
theorem puts_sd (A : Ar) (l : List (Nat × Nat)) : (puts A l).sd = A.sd ++ l.map (·.1) := by
  induction l generalizing A with
  | nil => simp [puts]
  | cons p l ih =>
    show (puts (put A p.1 p.2) l).sd = _
    rw [ih]
    simp [put]
def fmt1 (s : Shp) : List (Nat × Nat) := [(s.ctl + 1, 1), (s.ctl + 2, 0), (s.ctl + 3, 0), (s.ctl + 4, 0)]
def fmt2 (s : Shp) (k : Nat) : List (Nat × Nat) := (List.range k).map (fun j => (s.bm + j, 0))
def fmt3 (s : Shp) (k : Nat) : List (Nat × Nat) := (List.range k).map (fun i => (s.bk i, i + 2))
def fmtL (s : Shp) : List (Nat × Nat) := fmt1 s ++ (fmt2 s (mapW s.n) ++ (fmt3 s (s.n - 1) ++ [(s.bk (s.n - 1), 0), (s.ctl, sealN s)]))
def fmtF (A : Ar) (s : Shp) : Ar := puts A (fmtL s)

section
variable {w w' : World} {ab tb pb p sb so : Nat} {M M' : Am} {A : Ar} {K : Value → World → Prop} {C : Nat → Prop} {s : Shp} {T : Tb}

theorem mapW_le (hok : s.Ok) : mapW s.n ≤ s.n ∧ s.n ≤ 4096 := by
  have h1 := hok.n1
  have h2 := hok.fin
  have h3 := hok.lim
  have h4 : s.n * 1 ≤ s.n * s.bw := Nat.mul_le_mul_left _ hok.bw1
  unfold mapW
  omega

theorem format_ok (ha : Arn w ab M A) (ht : Tbl w tb pb ab T) (hsh : ShAt w sb so s) (hok : s.Ok) (hs : A.sd.length ≤ 900000)
    (hK : ∀ w' M', Arn w' ab M' (fmtF A s) → StA w w' ab M M' → K (I 0) w') : cl Tryd.prog 51 #[P tb 0, P sb so] K w := by
  have hc := hok.ctl_lt
  have hlim := hok.lim
  obtain ⟨hmw, hn4⟩ := mapW_le hok
  have hbm := hok.bm
  have hfst := hok.fst
  have hn1 := hok.n1
  have hbw := hok.bw1
  have hff : s.fst < s.fin := by
    have := hok.bk_lt (i := 0) (by omega)
    unfold Shp.bk at this
    omega
  apply c51
  unfold s51_p9
  try simp only [e_fd, e_nck, e_pkt, e_pkf, e_gdtt, e_gdtf, e_gdft, e_gdff, e_ift, e_iff, e_not, e_ln, e_lnT, e_cp, e_cvi, e_ex20, e_ex21, e_ex30, e_ex31, e_ex32, e_add, e_sub, e_mul, e_quo, e_rem, e_and, e_or, e_xor, e_shl, e_shr, e_eql, e_neq, e_lss, e_leq, e_gtr, e_geq, e_beq, e_bne, e_peq1, e_peq2, e_pne1, e_pne2, e_zeq1, e_zeq2, e_zne1, e_zne2, e_feq1, e_fne1, e_feq2, e_fne2, e_seq, e_sne, e_ta1, e_ta2, Nat.zero_add, Nat.add_zero, Bool.not_true, Bool.not_false]
  refine ld1_r ht.row rfl ?_
  refine newPort ha fun w1 h1 hk1 => ?_
  have hsh1 := hsh.kp' hk1
  have fin : ∀ {w' M'}, StP w1 w' ab w.heap.size M M' → StA w w' ab M M' := fun st => st.toA hk1 (Nat.le_refl _)
  try simp only [e_fd, e_nck, e_pkt, e_pkf, e_gdtt, e_gdtf, e_gdft, e_gdff, e_ift, e_iff, e_not, e_ln, e_lnT, e_cp, e_cvi, e_ex20, e_ex21, e_ex30, e_ex31, e_ex32, e_add, e_sub, e_mul, e_quo, e_rem, e_and, e_or, e_xor, e_shl, e_shr, e_eql, e_neq, e_lss, e_leq, e_gtr, e_geq, e_beq, e_bne, e_peq1, e_peq2, e_pne1, e_pne2, e_zeq1, e_zeq2, e_zne1, e_zne2, e_feq1, e_fne1, e_feq2, e_fne2, e_seq, e_sne, e_ta1, e_ta2, Nat.zero_add, Nat.add_zero, Bool.not_true, Bool.not_false]
  refine hsh1.ld (k := 0) (by decide) rfl rfl ?_
  try simp only [e_fd, e_nck, e_pkt, e_pkf, e_gdtt, e_gdtf, e_gdft, e_gdff, e_ift, e_iff, e_not, e_ln, e_lnT, e_cp, e_cvi, e_ex20, e_ex21, e_ex30, e_ex31, e_ex32, e_add, e_sub, e_mul, e_quo, e_rem, e_and, e_or, e_xor, e_shl, e_shr, e_eql, e_neq, e_lss, e_leq, e_gtr, e_geq, e_beq, e_bne, e_peq1, e_peq2, e_pne1, e_pne2, e_zeq1, e_zeq2, e_zne1, e_zne2, e_feq1, e_fne1, e_feq2, e_fne2, e_seq, e_sne, e_ta1, e_ta2, Nat.zero_add, Nat.add_zero, Bool.not_true, Bool.not_false]
  rw [ctlA (z := 1) (k := 1) rfl hok (by decide)]
  refine pstore_ok (v := 1) h1 (by omega) (by decide) (by omega) fun w2 M2 h2 st2 => ?_
  have hsh2 := h1.sh st2 hsh1
  try simp only [e_fd, e_nck, e_pkt, e_pkf, e_gdtt, e_gdtf, e_gdft, e_gdff, e_ift, e_iff, e_not, e_ln, e_lnT, e_cp, e_cvi, e_ex20, e_ex21, e_ex30, e_ex31, e_ex32, e_add, e_sub, e_mul, e_quo, e_rem, e_and, e_or, e_xor, e_shl, e_shr, e_eql, e_neq, e_lss, e_leq, e_gtr, e_geq, e_beq, e_bne, e_peq1, e_peq2, e_pne1, e_pne2, e_zeq1, e_zeq2, e_zne1, e_zne2, e_feq1, e_fne1, e_feq2, e_fne2, e_seq, e_sne, e_ta1, e_ta2, Nat.zero_add, Nat.add_zero, Bool.not_true, Bool.not_false]
  refine hsh2.ld (k := 0) (by decide) rfl rfl ?_
  try simp only [e_fd, e_nck, e_pkt, e_pkf, e_gdtt, e_gdtf, e_gdft, e_gdff, e_ift, e_iff, e_not, e_ln, e_lnT, e_cp, e_cvi, e_ex20, e_ex21, e_ex30, e_ex31, e_ex32, e_add, e_sub, e_mul, e_quo, e_rem, e_and, e_or, e_xor, e_shl, e_shr, e_eql, e_neq, e_lss, e_leq, e_gtr, e_geq, e_beq, e_bne, e_peq1, e_peq2, e_pne1, e_pne2, e_zeq1, e_zeq2, e_zne1, e_zne2, e_feq1, e_fne1, e_feq2, e_fne2, e_seq, e_sne, e_ta1, e_ta2, Nat.zero_add, Nat.add_zero, Bool.not_true, Bool.not_false]
  rw [ctlA (z := 2) (k := 2) rfl hok (by decide)]
  refine pstore_ok (v := 0) h2 (by omega) (by decide) (by show (A.sd ++ [_]).length ≤ _; simp; omega) fun w3 M3 h3 st3 => ?_
  have hsh3 := h2.sh st3 hsh2
  try simp only [e_fd, e_nck, e_pkt, e_pkf, e_gdtt, e_gdtf, e_gdft, e_gdff, e_ift, e_iff, e_not, e_ln, e_lnT, e_cp, e_cvi, e_ex20, e_ex21, e_ex30, e_ex31, e_ex32, e_add, e_sub, e_mul, e_quo, e_rem, e_and, e_or, e_xor, e_shl, e_shr, e_eql, e_neq, e_lss, e_leq, e_gtr, e_geq, e_beq, e_bne, e_peq1, e_peq2, e_pne1, e_pne2, e_zeq1, e_zeq2, e_zne1, e_zne2, e_feq1, e_fne1, e_feq2, e_fne2, e_seq, e_sne, e_ta1, e_ta2, Nat.zero_add, Nat.add_zero, Bool.not_true, Bool.not_false]
  refine hsh3.ld (k := 0) (by decide) rfl rfl ?_
  try simp only [e_fd, e_nck, e_pkt, e_pkf, e_gdtt, e_gdtf, e_gdft, e_gdff, e_ift, e_iff, e_not, e_ln, e_lnT, e_cp, e_cvi, e_ex20, e_ex21, e_ex30, e_ex31, e_ex32, e_add, e_sub, e_mul, e_quo, e_rem, e_and, e_or, e_xor, e_shl, e_shr, e_eql, e_neq, e_lss, e_leq, e_gtr, e_geq, e_beq, e_bne, e_peq1, e_peq2, e_pne1, e_pne2, e_zeq1, e_zeq2, e_zne1, e_zne2, e_feq1, e_fne1, e_feq2, e_fne2, e_seq, e_sne, e_ta1, e_ta2, Nat.zero_add, Nat.add_zero, Bool.not_true, Bool.not_false]
  rw [ctlA (z := 3) (k := 3) rfl hok (by decide)]
  refine pstore_ok (v := 0) h3 (by omega) (by decide) (by show ((A.sd ++ [_]) ++ [_]).length ≤ _; simp; omega) fun w4 M4 h4 st4 => ?_
  have hsh4 := h3.sh st4 hsh3
  try simp only [e_fd, e_nck, e_pkt, e_pkf, e_gdtt, e_gdtf, e_gdft, e_gdff, e_ift, e_iff, e_not, e_ln, e_lnT, e_cp, e_cvi, e_ex20, e_ex21, e_ex30, e_ex31, e_ex32, e_add, e_sub, e_mul, e_quo, e_rem, e_and, e_or, e_xor, e_shl, e_shr, e_eql, e_neq, e_lss, e_leq, e_gtr, e_geq, e_beq, e_bne, e_peq1, e_peq2, e_pne1, e_pne2, e_zeq1, e_zeq2, e_zne1, e_zne2, e_feq1, e_fne1, e_feq2, e_fne2, e_seq, e_sne, e_ta1, e_ta2, Nat.zero_add, Nat.add_zero, Bool.not_true, Bool.not_false]
  refine hsh4.ld (k := 0) (by decide) rfl rfl ?_
  try simp only [e_fd, e_nck, e_pkt, e_pkf, e_gdtt, e_gdtf, e_gdft, e_gdff, e_ift, e_iff, e_not, e_ln, e_lnT, e_cp, e_cvi, e_ex20, e_ex21, e_ex30, e_ex31, e_ex32, e_add, e_sub, e_mul, e_quo, e_rem, e_and, e_or, e_xor, e_shl, e_shr, e_eql, e_neq, e_lss, e_leq, e_gtr, e_geq, e_beq, e_bne, e_peq1, e_peq2, e_pne1, e_pne2, e_zeq1, e_zeq2, e_zne1, e_zne2, e_feq1, e_fne1, e_feq2, e_fne2, e_seq, e_sne, e_ta1, e_ta2, Nat.zero_add, Nat.add_zero, Bool.not_true, Bool.not_false]
  rw [ctlA (z := 4) (k := 4) rfl hok (by decide)]
  refine pstore_ok (v := 0) h4 (by omega) (by decide) (by show (((A.sd ++ [_]) ++ [_]) ++ [_]).length ≤ _; simp; omega) fun w5 M5 h5 st5 => ?_
  have hsh5 := h4.sh st5 hsh4
  have st15 := ((st2.trans st3).trans st4).trans st5
  try simp only [e_fd, e_nck, e_pkt, e_pkf, e_gdtt, e_gdtf, e_gdft, e_gdff, e_ift, e_iff, e_not, e_ln, e_lnT, e_cp, e_cvi, e_ex20, e_ex21, e_ex30, e_ex31, e_ex32, e_add, e_sub, e_mul, e_quo, e_rem, e_and, e_or, e_xor, e_shl, e_shr, e_eql, e_neq, e_lss, e_leq, e_gtr, e_geq, e_beq, e_bne, e_peq1, e_peq2, e_pne1, e_pne2, e_zeq1, e_zeq2, e_zne1, e_zne2, e_feq1, e_fne1, e_feq2, e_fne2, e_seq, e_sne, e_ta1, e_ta2, Nat.zero_add, Nat.add_zero, Bool.not_true, Bool.not_false]
  refine hsh5.ld (k := 1) (by decide) rfl rfl ?_
  -- the bitmap
  refine ⟨fun n l w' => ∃ (k : Nat) (M' : Am), k ≤ mapW s.n ∧ n = mapW s.n - k ∧ l = [P sb so, P w.heap.size 0, U32 (s.bm + k)] ∧ Pt w' ab w.heap.size M' (puts A (fmt1 s ++ fmt2 s k)) ∧ StP w1 w' ab w.heap.size M M' ∧ ShAt w' sb so s,
    mapW s.n, ⟨0, M5, by omega, by omega, rfl, h5, st15, hsh5⟩, ?_⟩
  rintro n l w6 ⟨k, M6, hk, rfl, rfl, h6, st6, hsh6⟩
  rw [s51_p8_Fe]
  unfold s51_p7
  try simp only [e_fd, e_nck, e_pkt, e_pkf, e_gdtt, e_gdtf, e_gdft, e_gdff, e_ift, e_iff, e_not, e_ln, e_lnT, e_cp, e_cvi, e_ex20, e_ex21, e_ex30, e_ex31, e_ex32, e_add, e_sub, e_mul, e_quo, e_rem, e_and, e_or, e_xor, e_shl, e_shr, e_eql, e_neq, e_lss, e_leq, e_gtr, e_geq, e_beq, e_bne, e_peq1, e_peq2, e_pne1, e_pne2, e_zeq1, e_zeq2, e_zne1, e_zne2, e_feq1, e_fne1, e_feq2, e_fne2, e_seq, e_sne, e_ta1, e_ta2, Nat.zero_add, Nat.add_zero, Bool.not_true, Bool.not_false]
  refine hsh6.ld (k := 2) (by decide) rfl rfl ?_
  try simp only [e_fd, e_nck, e_pkt, e_pkf, e_gdtt, e_gdtf, e_gdft, e_gdff, e_ift, e_iff, e_not, e_ln, e_lnT, e_cp, e_cvi, e_ex20, e_ex21, e_ex30, e_ex31, e_ex32, e_add, e_sub, e_mul, e_quo, e_rem, e_and, e_or, e_xor, e_shl, e_shr, e_eql, e_neq, e_lss, e_leq, e_gtr, e_geq, e_beq, e_bne, e_peq1, e_peq2, e_pne1, e_pne2, e_zeq1, e_zeq2, e_zne1, e_zne2, e_feq1, e_fne1, e_feq2, e_fne2, e_seq, e_sne, e_ta1, e_ta2, Nat.zero_add, Nat.add_zero, Bool.not_true, Bool.not_false]
  by_cases hlt : k < mapW s.n
  · have hlt' : ((s.bm + k : Nat) : Int) < ((s.fst : Nat) : Int) := by omega
    simp only [hlt', decide_true, e_fd, e_nck, e_pkt, e_pkf, e_gdtt, e_gdtf, e_gdft, e_gdff, e_ift, e_iff, e_not, e_ln, e_lnT, e_cp, e_cvi, e_ex20, e_ex21, e_ex30, e_ex31, e_ex32, e_add, e_sub, e_mul, e_quo, e_rem, e_and, e_or, e_xor, e_shl, e_shr, e_eql, e_neq, e_lss, e_leq, e_gtr, e_geq, e_beq, e_bne, e_peq1, e_peq2, e_pne1, e_pne2, e_zeq1, e_zeq2, e_zne1, e_zne2, e_feq1, e_fne1, e_feq2, e_fne2, e_seq, e_sne, e_ta1, e_ta2, Nat.zero_add, Nat.add_zero, Bool.not_true, Bool.not_false]
    refine pstore_ok (v := 0) h6 (by omega) (by decide) (by rw [puts_sd]; simp [fmt1, fmt2]; omega) fun w7 M7 h7 st7 => ?_
    try simp only [e_fd, e_nck, e_pkt, e_pkf, e_gdtt, e_gdtf, e_gdft, e_gdff, e_ift, e_iff, e_not, e_ln, e_lnT, e_cp, e_cvi, e_ex20, e_ex21, e_ex30, e_ex31, e_ex32, e_add, e_sub, e_mul, e_quo, e_rem, e_and, e_or, e_xor, e_shl, e_shr, e_eql, e_neq, e_lss, e_leq, e_gtr, e_geq, e_beq, e_bne, e_peq1, e_peq2, e_pne1, e_pne2, e_zeq1, e_zeq2, e_zne1, e_zne2, e_feq1, e_fne1, e_feq2, e_fne2, e_seq, e_sne, e_ta1, e_ta2, Nat.zero_add, Nat.add_zero, Bool.not_true, Bool.not_false]
    rw [show (((s.bm + k : Nat) : Int) + 1) = ((s.bm + (k + 1) : Nat) : Int) by omega, w32 (by omega)]
    refine ⟨mapW s.n - (k + 1), by omega, k + 1, M7, by omega, rfl, rfl, ?_, st6.trans st7, h6.sh st7 hsh6⟩
    have : puts A (fmt1 s ++ fmt2 s (k + 1)) = put (puts A (fmt1 s ++ fmt2 s k)) (s.bm + k) 0 := by
      unfold fmt2
      rw [List.range_succ, List.map_append, ← List.append_assoc, puts_app]
      rfl
    rw [this]; exact h7
  · have hlt' : ¬ ((s.bm + k : Nat) : Int) < ((s.fst : Nat) : Int) := by omega
    simp only [hlt', decide_false, e_fd, e_nck, e_pkt, e_pkf, e_gdtt, e_gdtf, e_gdft, e_gdff, e_ift, e_iff, e_not, e_ln, e_lnT, e_cp, e_cvi, e_ex20, e_ex21, e_ex30, e_ex31, e_ex32, e_add, e_sub, e_mul, e_quo, e_rem, e_and, e_or, e_xor, e_shl, e_shr, e_eql, e_neq, e_lss, e_leq, e_gtr, e_geq, e_beq, e_bne, e_peq1, e_peq2, e_pne1, e_pne2, e_zeq1, e_zeq2, e_zne1, e_zne2, e_feq1, e_fne1, e_feq2, e_fne2, e_seq, e_sne, e_ta1, e_ta2, Nat.zero_add, Nat.add_zero, Bool.not_true, Bool.not_false]
    have ek : k = mapW s.n := by omega
    subst ek
    -- the free list
    unfold s51_p6
    refine ⟨fun n l w' => ∃ (i : Nat) (M' : Am), i ≤ s.n - 1 ∧ n = s.n - 1 - i ∧ l = [P sb so, P w.heap.size 0, U32 i] ∧ Pt w' ab w.heap.size M' (puts A (fmt1 s ++ (fmt2 s (mapW s.n) ++ fmt3 s i))) ∧ StP w1 w' ab w.heap.size M M' ∧ ShAt w' sb so s,
      s.n - 1, ⟨0, M6, by omega, by omega, rfl, by simpa [fmt3] using h6, st6, hsh6⟩, ?_⟩
    clear h6 st6 hsh6
    rintro n l w6 ⟨i, M6, hi, rfl, rfl, h6, st6, hsh6⟩
    rw [s51_p5_Fe]
    unfold s51_p4
    try simp only [e_fd, e_nck, e_pkt, e_pkf, e_gdtt, e_gdtf, e_gdft, e_gdff, e_ift, e_iff, e_not, e_ln, e_lnT, e_cp, e_cvi, e_ex20, e_ex21, e_ex30, e_ex31, e_ex32, e_add, e_sub, e_mul, e_quo, e_rem, e_and, e_or, e_xor, e_shl, e_shr, e_eql, e_neq, e_lss, e_leq, e_gtr, e_geq, e_beq, e_bne, e_peq1, e_peq2, e_pne1, e_pne2, e_zeq1, e_zeq2, e_zne1, e_zne2, e_feq1, e_fne1, e_feq2, e_fne2, e_seq, e_sne, e_ta1, e_ta2, Nat.zero_add, Nat.add_zero, Bool.not_true, Bool.not_false]
    rw [show (((i : Nat) : Int) + 1) = ((i + 1 : Nat) : Int) by omega, w32 (by omega)]
    refine hsh6.ld (k := 5) (by decide) rfl rfl ?_
    try simp only [e_fd, e_nck, e_pkt, e_pkf, e_gdtt, e_gdtf, e_gdft, e_gdff, e_ift, e_iff, e_not, e_ln, e_lnT, e_cp, e_cvi, e_ex20, e_ex21, e_ex30, e_ex31, e_ex32, e_add, e_sub, e_mul, e_quo, e_rem, e_and, e_or, e_xor, e_shl, e_shr, e_eql, e_neq, e_lss, e_leq, e_gtr, e_geq, e_beq, e_bne, e_peq1, e_peq2, e_pne1, e_pne2, e_zeq1, e_zeq2, e_zne1, e_zne2, e_feq1, e_fne1, e_feq2, e_fne2, e_seq, e_sne, e_ta1, e_ta2, Nat.zero_add, Nat.add_zero, Bool.not_true, Bool.not_false]
    by_cases hlt : i < s.n - 1
    · have hlt' : ((i + 1 : Nat) : Int) < ((s.n : Nat) : Int) := by omega
      simp only [hlt', decide_true, e_fd, e_nck, e_pkt, e_pkf, e_gdtt, e_gdtf, e_gdft, e_gdff, e_ift, e_iff, e_not, e_ln, e_lnT, e_cp, e_cvi, e_ex20, e_ex21, e_ex30, e_ex31, e_ex32, e_add, e_sub, e_mul, e_quo, e_rem, e_and, e_or, e_xor, e_shl, e_shr, e_eql, e_neq, e_lss, e_leq, e_gtr, e_geq, e_beq, e_bne, e_peq1, e_peq2, e_pne1, e_pne2, e_zeq1, e_zeq2, e_zne1, e_zne2, e_feq1, e_fne1, e_feq2, e_fne2, e_seq, e_sne, e_ta1, e_ta2, Nat.zero_add, Nat.add_zero, Bool.not_true, Bool.not_false]
      have hbk := hok.bk_lt (show i < s.n by omega)
      refine blockAt_ok hsh6 (by omega) fun w7 hk7 => ?_
      have h7 := h6.kp' hk7
      try simp only [e_fd, e_nck, e_pkt, e_pkf, e_gdtt, e_gdtf, e_gdft, e_gdff, e_ift, e_iff, e_not, e_ln, e_lnT, e_cp, e_cvi, e_ex20, e_ex21, e_ex30, e_ex31, e_ex32, e_add, e_sub, e_mul, e_quo, e_rem, e_and, e_or, e_xor, e_shl, e_shr, e_eql, e_neq, e_lss, e_leq, e_gtr, e_geq, e_beq, e_bne, e_peq1, e_peq2, e_pne1, e_pne2, e_zeq1, e_zeq2, e_zne1, e_zne2, e_feq1, e_fne1, e_feq2, e_fne2, e_seq, e_sne, e_ta1, e_ta2, Nat.zero_add, Nat.add_zero, Bool.not_true, Bool.not_false]
      rw [w64 (show i < 18446744073709551616 by omega), show (((i : Nat) : Int) + 2) = ((i + 2 : Nat) : Int) by omega, w64 (by omega)]
      refine pstore_ok h7 (by omega) (by omega) (by rw [puts_sd]; simp [fmt1, fmt2, fmt3]; omega) fun w8 M8 h8 st8 => ?_
      try simp only [e_fd, e_nck, e_pkt, e_pkf, e_gdtt, e_gdtf, e_gdft, e_gdff, e_ift, e_iff, e_not, e_ln, e_lnT, e_cp, e_cvi, e_ex20, e_ex21, e_ex30, e_ex31, e_ex32, e_add, e_sub, e_mul, e_quo, e_rem, e_and, e_or, e_xor, e_shl, e_shr, e_eql, e_neq, e_lss, e_leq, e_gtr, e_geq, e_beq, e_bne, e_peq1, e_peq2, e_pne1, e_pne2, e_zeq1, e_zeq2, e_zne1, e_zne2, e_feq1, e_fne1, e_feq2, e_fne2, e_seq, e_sne, e_ta1, e_ta2, Nat.zero_add, Nat.add_zero, Bool.not_true, Bool.not_false]
      try rw [show (((i : Nat) : Int) + 1) = ((i + 1 : Nat) : Int) by omega, w32 (by omega)]
      refine ⟨s.n - 1 - (i + 1), by omega, i + 1, M8, by omega, rfl, rfl, ?_, (st6.trans (StP.of hk7 (fun _ _ q => q.elim))).trans st8, h7.sh st8 (hsh6.kp' hk7)⟩
      have : puts A (fmt1 s ++ (fmt2 s (mapW s.n) ++ fmt3 s (i + 1))) = put (puts A (fmt1 s ++ (fmt2 s (mapW s.n) ++ fmt3 s i))) (s.bk i) (i + 2) := by
        have e : fmt3 s (i + 1) = fmt3 s i ++ [(s.bk i, i + 2)] := by unfold fmt3; rw [List.range_succ, List.map_append]; rfl
        rw [e, ← List.append_assoc, ← List.append_assoc, puts_app, ← List.append_assoc]
        rfl
      rw [this]; exact h8
    · have hlt' : ¬ ((i + 1 : Nat) : Int) < ((s.n : Nat) : Int) := by omega
      simp only [hlt', decide_false, e_fd, e_nck, e_pkt, e_pkf, e_gdtt, e_gdtf, e_gdft, e_gdff, e_ift, e_iff, e_not, e_ln, e_lnT, e_cp, e_cvi, e_ex20, e_ex21, e_ex30, e_ex31, e_ex32, e_add, e_sub, e_mul, e_quo, e_rem, e_and, e_or, e_xor, e_shl, e_shr, e_eql, e_neq, e_lss, e_leq, e_gtr, e_geq, e_beq, e_bne, e_peq1, e_peq2, e_pne1, e_pne2, e_zeq1, e_zeq2, e_zne1, e_zne2, e_feq1, e_fne1, e_feq2, e_fne2, e_seq, e_sne, e_ta1, e_ta2, Nat.zero_add, Nat.add_zero, Bool.not_true, Bool.not_false]
      have ei : i = s.n - 1 := by omega
      subst ei
      unfold s51_p3
      try simp only [e_fd, e_nck, e_pkt, e_pkf, e_gdtt, e_gdtf, e_gdft, e_gdff, e_ift, e_iff, e_not, e_ln, e_lnT, e_cp, e_cvi, e_ex20, e_ex21, e_ex30, e_ex31, e_ex32, e_add, e_sub, e_mul, e_quo, e_rem, e_and, e_or, e_xor, e_shl, e_shr, e_eql, e_neq, e_lss, e_leq, e_gtr, e_geq, e_beq, e_bne, e_peq1, e_peq2, e_pne1, e_pne2, e_zeq1, e_zeq2, e_zne1, e_zne2, e_feq1, e_fne1, e_feq2, e_fne2, e_seq, e_sne, e_ta1, e_ta2, Nat.zero_add, Nat.add_zero, Bool.not_true, Bool.not_false]
      refine hsh6.ld (k := 5) (by decide) rfl rfl ?_
      try simp only [e_fd, e_nck, e_pkt, e_pkf, e_gdtt, e_gdtf, e_gdft, e_gdff, e_ift, e_iff, e_not, e_ln, e_lnT, e_cp, e_cvi, e_ex20, e_ex21, e_ex30, e_ex31, e_ex32, e_add, e_sub, e_mul, e_quo, e_rem, e_and, e_or, e_xor, e_shl, e_shr, e_eql, e_neq, e_lss, e_leq, e_gtr, e_geq, e_beq, e_bne, e_peq1, e_peq2, e_pne1, e_pne2, e_zeq1, e_zeq2, e_zne1, e_zne2, e_feq1, e_fne1, e_feq2, e_fne2, e_seq, e_sne, e_ta1, e_ta2, Nat.zero_add, Nat.add_zero, Bool.not_true, Bool.not_false]
      rw [show (((s.n : Nat) : Int) - 1) = ((s.n - 1 : Nat) : Int) by omega, w32 (by omega)]
      have hbk := hok.bk_lt (show s.n - 1 < s.n by omega)
      refine blockAt_ok hsh6 (by omega) fun w7 hk7 => ?_
      have h7 := h6.kp' hk7
      refine pstore_ok (v := 0) h7 (by omega) (by decide) (by rw [puts_sd]; simp [fmt1, fmt2, fmt3]; omega) fun w8 M8 h8 st8 => ?_
      have hsh8 := h7.sh st8 (hsh6.kp' hk7)
      unfold s51_p2 s51_p2_d
      try simp only [e_fd, e_nck, e_pkt, e_pkf, e_gdtt, e_gdtf, e_gdft, e_gdff, e_ift, e_iff, e_not, e_ln, e_lnT, e_cp, e_cvi, e_ex20, e_ex21, e_ex30, e_ex31, e_ex32, e_add, e_sub, e_mul, e_quo, e_rem, e_and, e_or, e_xor, e_shl, e_shr, e_eql, e_neq, e_lss, e_leq, e_gtr, e_geq, e_beq, e_bne, e_peq1, e_peq2, e_pne1, e_pne2, e_zeq1, e_zeq2, e_zne1, e_zne2, e_feq1, e_fne1, e_feq2, e_fne2, e_seq, e_sne, e_ta1, e_ta2, Nat.zero_add, Nat.add_zero, Bool.not_true, Bool.not_false]
      have h8d := h8.kp' (w' := drw w8) kp_drw
      have hsh8d := hsh8.kp' (w' := drw w8) kp_drw
      refine hsh8d.ld (k := 0) (by decide) rfl rfl ?_
      try simp only [e_fd, e_nck, e_pkt, e_pkf, e_gdtt, e_gdtf, e_gdft, e_gdff, e_ift, e_iff, e_not, e_ln, e_lnT, e_cp, e_cvi, e_ex20, e_ex21, e_ex30, e_ex31, e_ex32, e_add, e_sub, e_mul, e_quo, e_rem, e_and, e_or, e_xor, e_shl, e_shr, e_eql, e_neq, e_lss, e_leq, e_gtr, e_geq, e_beq, e_bne, e_peq1, e_peq2, e_pne1, e_pne2, e_zeq1, e_zeq2, e_zne1, e_zne2, e_feq1, e_fne1, e_feq2, e_fne2, e_seq, e_sne, e_ta1, e_ta2, Nat.zero_add, Nat.add_zero, Bool.not_true, Bool.not_false]
      rw [ctlA (z := 0) (k := 0) rfl hok (by decide), Nat.add_zero]
      refine seal_ok hsh8d fun w9 hk9 => ⟨hk9.below', ?_⟩
      have h9 := h8d.kp' hk9
      refine pstore_ok h9 (by omega) (seal_lt s) (by
        show ((puts A _).sd ++ [_]).length ≤ _
        rw [puts_sd]; simp [fmt1, fmt2, fmt3]; omega) fun w10 M10 h10 st10 => ?_
      unfold s51_p1
      try simp only [e_fd, e_nck, e_pkt, e_pkf, e_gdtt, e_gdtf, e_gdft, e_gdff, e_ift, e_iff, e_not, e_ln, e_lnT, e_cp, e_cvi, e_ex20, e_ex21, e_ex30, e_ex31, e_ex32, e_add, e_sub, e_mul, e_quo, e_rem, e_and, e_or, e_xor, e_shl, e_shr, e_eql, e_neq, e_lss, e_leq, e_gtr, e_geq, e_beq, e_bne, e_peq1, e_peq2, e_pne1, e_pne2, e_zeq1, e_zeq2, e_zne1, e_zne2, e_feq1, e_fne1, e_feq2, e_fne2, e_seq, e_sne, e_ta1, e_ta2, Nat.zero_add, Nat.add_zero, Bool.not_true, Bool.not_false]
      refine ld1_r h10.port rfl ?_
      have st8' : StP w1 w8 ab w.heap.size M M8 := (st6.trans (StP.of hk7 (fun _ _ q => q.elim))).trans st8
      have st9' : StP w1 w9 ab w.heap.size M M8 := st8'.trans (StP.of ((kp_drw (w := w8) (S := fun _ => False)).trans hk9) (fun _ _ q => q.elim))
      refine hK w10 M10 ?_ (fin (st9'.trans st10))
      have e : fmtF A s = put (put (puts A (fmt1 s ++ (fmt2 s (mapW s.n) ++ fmt3 s (s.n - 1)))) (s.bk (s.n - 1)) 0) s.ctl (sealN s) := by
        unfold fmtF fmtL
        rw [← List.append_assoc, ← List.append_assoc, puts_app, ← List.append_assoc]
        rfl
      rw [e]; exact h10.arn
end
end Go.Proofs.Qxb6500893aDoor
