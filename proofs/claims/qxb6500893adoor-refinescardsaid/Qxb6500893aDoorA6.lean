import Derived.Test.Qxb6500893aDoorA5
namespace Go.Proofs.Qxb6500893aDoor
open Go.Sh Go.RowKit
set_option linter.unusedVariables false
set_option linter.unusedSimpArgs false

def crC (T : Tb) (bw n : Int) : Int := if bw < 1 ∨ 4096 < bw ∨ n < 1 ∨ 65536 < n then 3 else if 8 ≤ T.ps.length then 4 else if T.lim - T.next < 5 + mapW n.toNat + n.toNat * bw.toNat then 5 else 0
def crSh (T : Tb) (bw n : Nat) : Shp := ⟨T.next, T.next + 5, T.next + 5 + mapW n, T.next + (5 + mapW n + n * bw), bw, n⟩
def crT (T : Tb) (s : Shp) : Tb := { T with next := s.fin, ps := T.ps ++ [s] }

section
variable {w w' : World} {ab tb pb p sb so : Nat} {M M' : Am} {A : Ar} {K : Value → World → Prop} {C : Nat → Prop} {s : Shp} {T : Tb}

theorem mapWords_ok {n : Nat} (hn : n ≤ 65536) (hK : K (U64 (mapW n)) w) : cl Tryd.prog 50 #[I (n : Nat)] K w := by
  apply c50
  unfold s50_p1
  try simp only [e_fd, e_nck, e_pkt, e_pkf, e_gdtt, e_gdtf, e_gdft, e_gdff, e_ift, e_iff, e_not, e_ln, e_lnT, e_cp, e_cvi, e_ex20, e_ex21, e_ex30, e_ex31, e_ex32, e_add, e_sub, e_mul, e_quo, e_rem, e_and, e_or, e_xor, e_shl, e_shr, e_eql, e_neq, e_lss, e_leq, e_gtr, e_geq, e_beq, e_bne, e_peq1, e_peq2, e_pne1, e_pne2, e_zeq1, e_zeq2, e_zne1, e_zne2, e_feq1, e_fne1, e_feq2, e_fne2, e_seq, e_sne, e_ta1, e_ta2, Nat.zero_add, Nat.add_zero, Bool.not_true, Bool.not_false]
  have e1 : IntKind.u64.wrap ((n : Nat) : Int) = ((n : Nat) : Int) := w64 (by omega)
  have e2 : IntKind.u64.wrap (((n : Nat) : Int) + 64) = ((n + 64 : Nat) : Int) := by rw [wrapU64]; omega
  have e3 : IntKind.u64.wrap (((n + 64 : Nat) : Int) - 1) = ((n + 63 : Nat) : Int) := by rw [wrapU64]; omega
  rw [e1, e2, e3]
  refine ⟨by decide, ?_⟩
  have e4 : (((n + 63 : Nat) : Int)).tdiv 64 = (((n + 63) / 64 : Nat) : Int) := by rw [Int.tdiv_eq_ediv_of_nonneg (by omega)]; omega
  rw [e4, w64 (by omega)]
  exact hK
theorem footprint_ok {bw n : Nat} (hn : n ≤ 65536) (hb : bw ≤ 4096) (hK : K (U64 (5 + mapW n + n * bw)) w) : cl Tryd.prog 49 #[I (bw : Nat), I (n : Nat)] K w := by
  have hm : n * bw ≤ 65536 * 4096 := Nat.mul_le_mul hn hb
  have hmw : mapW n ≤ 65536 := by unfold mapW; omega
  apply c49
  unfold s49_p1
  refine mapWords_ok hn ?_
  try simp only [e_fd, e_nck, e_pkt, e_pkf, e_gdtt, e_gdtf, e_gdft, e_gdff, e_ift, e_iff, e_not, e_ln, e_lnT, e_cp, e_cvi, e_ex20, e_ex21, e_ex30, e_ex31, e_ex32, e_add, e_sub, e_mul, e_quo, e_rem, e_and, e_or, e_xor, e_shl, e_shr, e_eql, e_neq, e_lss, e_leq, e_gtr, e_geq, e_beq, e_bne, e_peq1, e_peq2, e_pne1, e_pne2, e_zeq1, e_zeq2, e_zne1, e_zne2, e_feq1, e_fne1, e_feq2, e_fne2, e_seq, e_sne, e_ta1, e_ta2, Nat.zero_add, Nat.add_zero, Bool.not_true, Bool.not_false]
  have e1 : IntKind.u64.wrap ((n : Nat) : Int) = ((n : Nat) : Int) := w64 (by omega)
  have e2 : IntKind.u64.wrap ((bw : Nat) : Int) = ((bw : Nat) : Int) := w64 (by omega)
  have e3 : IntKind.u64.wrap (5 + ((mapW n : Nat) : Int)) = ((5 + mapW n : Nat) : Int) := by rw [wrapU64]; omega
  have e4 : IntKind.u64.wrap (((n : Nat) : Int) * ((bw : Nat) : Int)) = ((n * bw : Nat) : Int) := by
    rw [show ((n : Nat) : Int) * ((bw : Nat) : Int) = ((n * bw : Nat) : Int) by simp, w64 (by omega)]
  rw [e1, e2, e3, e4, show ((5 + mapW n : Nat) : Int) + ((n * bw : Nat) : Int) = ((5 + mapW n + n * bw : Nat) : Int) by omega, w64 (by omega)]
  exact hK

theorem crSh_ok {bw n : Nat} (ok : T.Ok) (h1 : 1 ≤ bw) (h2 : bw ≤ 4096) (h3 : 1 ≤ n) (h4 : n ≤ 65536) (hr : 5 + mapW n + n * bw ≤ T.lim - T.next) : (crSh T bw n).Ok := by
  have := ok.n1
  have := ok.top
  exact ⟨rfl, rfl, by show T.next + (5 + mapW n + n * bw) = T.next + 5 + mapW n + n * bw; omega, h1, h2, h3, h4, by show T.next + (5 + mapW n + n * bw) ≤ 4096; omega⟩
theorem crT_ok {bw n : Nat} (ok : T.Ok) (h1 : 1 ≤ bw) (h2 : bw ≤ 4096) (h3 : 1 ≤ n) (h4 : n ≤ 65536) (hl : T.ps.length < 8) (hr : 5 + mapW n + n * bw ≤ T.lim - T.next) : (crT T (crSh T bw n)).Ok := by
  have hn1 := ok.n1
  have hn0 := ok.n0
  refine ⟨ok.lim, ok.top, ok.wd, ?_, ?_, fun s hs => ?_, ?_, ?_⟩
  · show T.base ≤ T.next + (5 + mapW n + n * bw); omega
  · show T.next + (5 + mapW n + n * bw) ≤ T.lim; omega
  · have hs' : s ∈ T.ps ++ [crSh T bw n] := hs
    show s.Ok ∧ T.base ≤ s.ctl ∧ s.fin ≤ T.next + (5 + mapW n + n * bw)
    rcases List.mem_append.1 hs' with q | q
    · obtain ⟨a, b, c⟩ := ok.sh s q
      exact ⟨a, b, by omega⟩
    · simp at q
      subst q
      exact ⟨crSh_ok ok h1 h2 h3 h4 hr, hn0, Nat.le_refl _⟩
  · show (T.ps ++ [crSh T bw n]).length ≤ 8
    rw [List.length_append]; simp; omega
  · show (T.ps ++ [crSh T bw n]).Pairwise _
    refine List.pairwise_append.2 ⟨ok.srt, by simp, fun a ha b hb => ?_⟩
    simp at hb
    subst hb
    exact (ok.sh a ha).2.2

theorem fst_some {a : Addr} {size n m cap : Nat} {k : List Value → Prop} (h : Go.Sh.ldc a w 0 (n * size) k) : fst' size n (.slice (some a) m cap) w k := h
theorem app_in {pb b1 n cap : Nat} {l y z : List Value} (hz : z.length = 6) (hy : y.length = 6) (hys : y.all scal = true) (r1 : Row w b1 112 y) (rp : Row w pb 112 l) (hl : n * 6 + 6 ≤ l.length) (hc : n + 1 ≤ cap) (hcap : cap ≤ 100)
    (hK : ∀ w', Row w' pb 112 (l.take (n * 6) ++ (y ++ l.drop (n * 6 + 6))) → Kp (fun b => b = pb) w w' → K (.slice (some ⟨pb, 0, none⟩) (n + 1) cap) w') : apq 112 z 24 (.slice (some ⟨pb, 0, none⟩) n cap) (.slice (some ⟨b1, 0, none⟩) 1 1) K w := by
  refine ⟨by omega, by omega, fun _ => ?_, fun q => by omega⟩
  show fst' z.length 1 (.slice (some ⟨b1, 0, none⟩) 1 1) w (fun vs => stc ((⟨pb, 0, none⟩ : Addr).add (n * z.length)) 0 vs (fun w' => K (.slice (some ⟨pb, 0, none⟩) (n + 1) cap) w') w)
  rw [hz]
  refine fst_some ?_
  refine (Row.cells0 r1).ldc 6 0 _ (by rw [hy]) ?_
  rw [List.drop_zero, add_mk, Nat.zero_add]
  refine stc_r y 0 w l rp (by rw [hy]; omega) hys fun w1 r hk hz1 => ?_
  rw [hy, Nat.add_zero] at r
  exact hK w1 r hk

theorem create_ok {bw n : Int} (ha : Arn w ab M A) (ht : Tbl w tb pb ab T) (ok : T.Ok) (hs : A.sd.length ≤ 900000)
    (hN : crC T bw n ≠ 0 → ∀ w', Kp (fun _ => False) w w' → K (.tuple #[I (-1), I (crC T bw n)]) w')
    (hS : crC T bw n = 0 → 1 ≤ bw → bw ≤ 4096 → 1 ≤ n → n ≤ 65536 → (crT T (crSh T bw.toNat n.toNat)).Ok → ∀ w' M', Arn w' ab M' (fmtF A (crSh T bw.toNat n.toNat)) → Kp (fun b => OwnA ab M b ∨ b = tb ∨ b = pb) w w' → (∀ b, M'.sob = some b → M.sob = some b ∨ w.heap.size ≤ b) → M'.wb = M.wb → Tbl w' tb pb ab (crT T (crSh T bw.toNat n.toNat)) → K (.tuple #[I T.ps.length, I 0]) w') : cl Tryd.prog 32 #[P tb 0, I bw, I n] K w := by
  have hn0 := ok.n0
  have hn1 := ok.n1
  have htop := ok.top
  apply c32
  unfold s32_p7
  try simp only [e_fd, e_nck, e_pkt, e_pkf, e_gdtt, e_gdtf, e_gdft, e_gdff, e_ift, e_iff, e_not, e_ln, e_lnT, e_cp, e_cvi, e_ex20, e_ex21, e_ex30, e_ex31, e_ex32, e_add, e_sub, e_mul, e_quo, e_rem, e_and, e_or, e_xor, e_shl, e_shr, e_eql, e_neq, e_lss, e_leq, e_gtr, e_geq, e_beq, e_bne, e_peq1, e_peq2, e_pne1, e_pne2, e_zeq1, e_zeq2, e_zne1, e_zne2, e_feq1, e_fne1, e_feq2, e_fne2, e_seq, e_sne, e_ta1, e_ta2, Nat.zero_add, Nat.add_zero, Bool.not_true, Bool.not_false]
  unfold crC at hN hS
  have bad : (bw < 1 ∨ 4096 < bw ∨ n < 1 ∨ 65536 < n) → K (.tuple #[I (-1), I 3]) w := by
    intro q
    rw [if_pos q] at hN
    exact hN (by decide) w (Kp.refl _ _)
  by_cases c1 : bw < 1
  · simp only [c1, decide_true, e_fd, e_nck, e_pkt, e_pkf, e_gdtt, e_gdtf, e_gdft, e_gdff, e_ift, e_iff, e_not, e_ln, e_lnT, e_cp, e_cvi, e_ex20, e_ex21, e_ex30, e_ex31, e_ex32, e_add, e_sub, e_mul, e_quo, e_rem, e_and, e_or, e_xor, e_shl, e_shr, e_eql, e_neq, e_lss, e_leq, e_gtr, e_geq, e_beq, e_bne, e_peq1, e_peq2, e_pne1, e_pne2, e_zeq1, e_zeq2, e_zne1, e_zne2, e_feq1, e_fne1, e_feq2, e_fne2, e_seq, e_sne, e_ta1, e_ta2, Nat.zero_add, Nat.add_zero, Bool.not_true, Bool.not_false]
    exact bad (.inl c1)
  · simp only [c1, decide_false, e_fd, e_nck, e_pkt, e_pkf, e_gdtt, e_gdtf, e_gdft, e_gdff, e_ift, e_iff, e_not, e_ln, e_lnT, e_cp, e_cvi, e_ex20, e_ex21, e_ex30, e_ex31, e_ex32, e_add, e_sub, e_mul, e_quo, e_rem, e_and, e_or, e_xor, e_shl, e_shr, e_eql, e_neq, e_lss, e_leq, e_gtr, e_geq, e_beq, e_bne, e_peq1, e_peq2, e_pne1, e_pne2, e_zeq1, e_zeq2, e_zne1, e_zne2, e_feq1, e_fne1, e_feq2, e_fne2, e_seq, e_sne, e_ta1, e_ta2, Nat.zero_add, Nat.add_zero, Bool.not_true, Bool.not_false]
    by_cases c2 : 4096 < bw
    · simp only [c2, decide_true, e_fd, e_nck, e_pkt, e_pkf, e_gdtt, e_gdtf, e_gdft, e_gdff, e_ift, e_iff, e_not, e_ln, e_lnT, e_cp, e_cvi, e_ex20, e_ex21, e_ex30, e_ex31, e_ex32, e_add, e_sub, e_mul, e_quo, e_rem, e_and, e_or, e_xor, e_shl, e_shr, e_eql, e_neq, e_lss, e_leq, e_gtr, e_geq, e_beq, e_bne, e_peq1, e_peq2, e_pne1, e_pne2, e_zeq1, e_zeq2, e_zne1, e_zne2, e_feq1, e_fne1, e_feq2, e_fne2, e_seq, e_sne, e_ta1, e_ta2, Nat.zero_add, Nat.add_zero, Bool.not_true, Bool.not_false]
      exact bad (.inr (.inl c2))
    · simp only [c2, decide_false, e_fd, e_nck, e_pkt, e_pkf, e_gdtt, e_gdtf, e_gdft, e_gdff, e_ift, e_iff, e_not, e_ln, e_lnT, e_cp, e_cvi, e_ex20, e_ex21, e_ex30, e_ex31, e_ex32, e_add, e_sub, e_mul, e_quo, e_rem, e_and, e_or, e_xor, e_shl, e_shr, e_eql, e_neq, e_lss, e_leq, e_gtr, e_geq, e_beq, e_bne, e_peq1, e_peq2, e_pne1, e_pne2, e_zeq1, e_zeq2, e_zne1, e_zne2, e_feq1, e_fne1, e_feq2, e_fne2, e_seq, e_sne, e_ta1, e_ta2, Nat.zero_add, Nat.add_zero, Bool.not_true, Bool.not_false]
      by_cases c3 : n < 1
      · simp only [c3, decide_true, e_fd, e_nck, e_pkt, e_pkf, e_gdtt, e_gdtf, e_gdft, e_gdff, e_ift, e_iff, e_not, e_ln, e_lnT, e_cp, e_cvi, e_ex20, e_ex21, e_ex30, e_ex31, e_ex32, e_add, e_sub, e_mul, e_quo, e_rem, e_and, e_or, e_xor, e_shl, e_shr, e_eql, e_neq, e_lss, e_leq, e_gtr, e_geq, e_beq, e_bne, e_peq1, e_peq2, e_pne1, e_pne2, e_zeq1, e_zeq2, e_zne1, e_zne2, e_feq1, e_fne1, e_feq2, e_fne2, e_seq, e_sne, e_ta1, e_ta2, Nat.zero_add, Nat.add_zero, Bool.not_true, Bool.not_false]
        exact bad (.inr (.inr (.inl c3)))
      · simp only [c3, decide_false, e_fd, e_nck, e_pkt, e_pkf, e_gdtt, e_gdtf, e_gdft, e_gdff, e_ift, e_iff, e_not, e_ln, e_lnT, e_cp, e_cvi, e_ex20, e_ex21, e_ex30, e_ex31, e_ex32, e_add, e_sub, e_mul, e_quo, e_rem, e_and, e_or, e_xor, e_shl, e_shr, e_eql, e_neq, e_lss, e_leq, e_gtr, e_geq, e_beq, e_bne, e_peq1, e_peq2, e_pne1, e_pne2, e_zeq1, e_zeq2, e_zne1, e_zne2, e_feq1, e_fne1, e_feq2, e_fne2, e_seq, e_sne, e_ta1, e_ta2, Nat.zero_add, Nat.add_zero, Bool.not_true, Bool.not_false]
        by_cases c4 : 65536 < n
        · simp only [c4, decide_true, e_fd, e_nck, e_pkt, e_pkf, e_gdtt, e_gdtf, e_gdft, e_gdff, e_ift, e_iff, e_not, e_ln, e_lnT, e_cp, e_cvi, e_ex20, e_ex21, e_ex30, e_ex31, e_ex32, e_add, e_sub, e_mul, e_quo, e_rem, e_and, e_or, e_xor, e_shl, e_shr, e_eql, e_neq, e_lss, e_leq, e_gtr, e_geq, e_beq, e_bne, e_peq1, e_peq2, e_pne1, e_pne2, e_zeq1, e_zeq2, e_zne1, e_zne2, e_feq1, e_fne1, e_feq2, e_fne2, e_seq, e_sne, e_ta1, e_ta2, Nat.zero_add, Nat.add_zero, Bool.not_true, Bool.not_false]
          exact bad (.inr (.inr (.inr c4)))
        · simp only [c4, decide_false, e_fd, e_nck, e_pkt, e_pkf, e_gdtt, e_gdtf, e_gdft, e_gdff, e_ift, e_iff, e_not, e_ln, e_lnT, e_cp, e_cvi, e_ex20, e_ex21, e_ex30, e_ex31, e_ex32, e_add, e_sub, e_mul, e_quo, e_rem, e_and, e_or, e_xor, e_shl, e_shr, e_eql, e_neq, e_lss, e_leq, e_gtr, e_geq, e_beq, e_bne, e_peq1, e_peq2, e_pne1, e_pne2, e_zeq1, e_zeq2, e_zne1, e_zne2, e_feq1, e_fne1, e_feq2, e_fne2, e_seq, e_sne, e_ta1, e_ta2, Nat.zero_add, Nat.add_zero, Bool.not_true, Bool.not_false]
          rw [if_neg (by omega)] at hN hS
          obtain ⟨b, rfl⟩ : ∃ b : Nat, bw = (b : Int) := ⟨bw.toNat, by omega⟩
          obtain ⟨m, rfl⟩ : ∃ m : Nat, n = (m : Int) := ⟨n.toNat, by omega⟩
          have eb : ((b : Int)).toNat = b := by omega
          have em : ((m : Int)).toNat = m := by omega
          rw [eb, em] at hS
          rw [eb, em] at hN
          refine ld1_r ht.row rfl ?_
          try simp only [e_fd, e_nck, e_pkt, e_pkf, e_gdtt, e_gdtf, e_gdft, e_gdff, e_ift, e_iff, e_not, e_ln, e_lnT, e_cp, e_cvi, e_ex20, e_ex21, e_ex30, e_ex31, e_ex32, e_add, e_sub, e_mul, e_quo, e_rem, e_and, e_or, e_xor, e_shl, e_shr, e_eql, e_neq, e_lss, e_leq, e_gtr, e_geq, e_beq, e_bne, e_peq1, e_peq2, e_pne1, e_pne2, e_zeq1, e_zeq2, e_zne1, e_zne2, e_feq1, e_fne1, e_feq2, e_fne2, e_seq, e_sne, e_ta1, e_ta2, Nat.zero_add, Nat.add_zero, Bool.not_true, Bool.not_false]
          by_cases c5 : (8 : Int) ≤ ((T.ps.length : Nat) : Int)
          · simp only [c5, decide_true, e_fd, e_nck, e_pkt, e_pkf, e_gdtt, e_gdtf, e_gdft, e_gdff, e_ift, e_iff, e_not, e_ln, e_lnT, e_cp, e_cvi, e_ex20, e_ex21, e_ex30, e_ex31, e_ex32, e_add, e_sub, e_mul, e_quo, e_rem, e_and, e_or, e_xor, e_shl, e_shr, e_eql, e_neq, e_lss, e_leq, e_gtr, e_geq, e_beq, e_bne, e_peq1, e_peq2, e_pne1, e_pne2, e_zeq1, e_zeq2, e_zne1, e_zne2, e_feq1, e_fne1, e_feq2, e_fne2, e_seq, e_sne, e_ta1, e_ta2, Nat.zero_add, Nat.add_zero, Bool.not_true, Bool.not_false]
            rw [if_pos (show 8 ≤ T.ps.length by omega)] at hN
            exact hN (by decide) w (Kp.refl _ _)
          · simp only [c5, decide_false, e_fd, e_nck, e_pkt, e_pkf, e_gdtt, e_gdtf, e_gdft, e_gdff, e_ift, e_iff, e_not, e_ln, e_lnT, e_cp, e_cvi, e_ex20, e_ex21, e_ex30, e_ex31, e_ex32, e_add, e_sub, e_mul, e_quo, e_rem, e_and, e_or, e_xor, e_shl, e_shr, e_eql, e_neq, e_lss, e_leq, e_gtr, e_geq, e_beq, e_bne, e_peq1, e_peq2, e_pne1, e_pne2, e_zeq1, e_zeq2, e_zne1, e_zne2, e_feq1, e_fne1, e_feq2, e_fne2, e_seq, e_sne, e_ta1, e_ta2, Nat.zero_add, Nat.add_zero, Bool.not_true, Bool.not_false]
            rw [if_neg (show ¬ 8 ≤ T.ps.length by omega)] at hN hS
            have hmul : m * b ≤ 65536 * 4096 := Nat.mul_le_mul (by omega) (by omega)
            have hmw : mapW m ≤ 65536 := by unfold mapW; omega
            refine footprint_ok (by omega) (by omega) ?_
            unfold s32_p6 s32_p6_d
            try simp only [e_fd, e_nck, e_pkt, e_pkf, e_gdtt, e_gdtf, e_gdft, e_gdff, e_ift, e_iff, e_not, e_ln, e_lnT, e_cp, e_cvi, e_ex20, e_ex21, e_ex30, e_ex31, e_ex32, e_add, e_sub, e_mul, e_quo, e_rem, e_and, e_or, e_xor, e_shl, e_shr, e_eql, e_neq, e_lss, e_leq, e_gtr, e_geq, e_beq, e_bne, e_peq1, e_peq2, e_pne1, e_pne2, e_zeq1, e_zeq2, e_zne1, e_zne2, e_feq1, e_fne1, e_feq2, e_fne2, e_seq, e_sne, e_ta1, e_ta2, Nat.zero_add, Nat.add_zero, Bool.not_true, Bool.not_false]
            have hkd : Kp (fun _ => False) w (drw w) := kp_drw
            have htd := ht.kp' hkd
            refine ld1_r htd.row rfl ?_
            refine ld1_r htd.row rfl ?_
            try simp only [e_fd, e_nck, e_pkt, e_pkf, e_gdtt, e_gdtf, e_gdft, e_gdff, e_ift, e_iff, e_not, e_ln, e_lnT, e_cp, e_cvi, e_ex20, e_ex21, e_ex30, e_ex31, e_ex32, e_add, e_sub, e_mul, e_quo, e_rem, e_and, e_or, e_xor, e_shl, e_shr, e_eql, e_neq, e_lss, e_leq, e_gtr, e_geq, e_beq, e_bne, e_peq1, e_peq2, e_pne1, e_pne2, e_zeq1, e_zeq2, e_zne1, e_zne2, e_feq1, e_fne1, e_feq2, e_fne2, e_seq, e_sne, e_ta1, e_ta2, Nat.zero_add, Nat.add_zero, Bool.not_true, Bool.not_false]
            rw [show ((T.lim : Nat) : Int) - ((T.next : Nat) : Int) = ((T.lim - T.next : Nat) : Int) by omega, w32 (by omega), w64 (by omega)]
            unfold s32_p5
            by_cases c6 : T.lim - T.next < 5 + mapW m + m * b
            · have c6' : ((T.lim - T.next : Nat) : Int) < ((5 + mapW m + m * b : Nat) : Int) := by omega
              simp only [c6', decide_true, e_fd, e_nck, e_pkt, e_pkf, e_gdtt, e_gdtf, e_gdft, e_gdff, e_ift, e_iff, e_not, e_ln, e_lnT, e_cp, e_cvi, e_ex20, e_ex21, e_ex30, e_ex31, e_ex32, e_add, e_sub, e_mul, e_quo, e_rem, e_and, e_or, e_xor, e_shl, e_shr, e_eql, e_neq, e_lss, e_leq, e_gtr, e_geq, e_beq, e_bne, e_peq1, e_peq2, e_pne1, e_pne2, e_zeq1, e_zeq2, e_zne1, e_zne2, e_feq1, e_fne1, e_feq2, e_fne2, e_seq, e_sne, e_ta1, e_ta2, Nat.zero_add, Nat.add_zero, Bool.not_true, Bool.not_false]
              rw [if_pos c6] at hN
              exact hN (by decide) (drw w) kp_drw
            · have c6' : ¬ ((T.lim - T.next : Nat) : Int) < ((5 + mapW m + m * b : Nat) : Int) := by omega
              simp only [c6', decide_false, e_fd, e_nck, e_pkt, e_pkf, e_gdtt, e_gdtf, e_gdft, e_gdff, e_ift, e_iff, e_not, e_ln, e_lnT, e_cp, e_cvi, e_ex20, e_ex21, e_ex30, e_ex31, e_ex32, e_add, e_sub, e_mul, e_quo, e_rem, e_and, e_or, e_xor, e_shl, e_shr, e_eql, e_neq, e_lss, e_leq, e_gtr, e_geq, e_beq, e_bne, e_peq1, e_peq2, e_pne1, e_pne2, e_zeq1, e_zeq2, e_zne1, e_zne2, e_feq1, e_fne1, e_feq2, e_fne2, e_seq, e_sne, e_ta1, e_ta2, Nat.zero_add, Nat.add_zero, Bool.not_true, Bool.not_false]
              rw [if_neg c6] at hS
              have hS := hS rfl (by omega) (by omega) (by omega) (by omega) (crT_ok ok (by omega) (by omega) (by omega) (by omega) (by omega) (by omega))
              have hokS := crSh_ok (T := T) (bw := b) (n := m) ok (by omega) (by omega) (by omega) (by omega) (by omega)
              have had := ha.kp' hkd
              refine ld1_r htd.row rfl ?_
              try simp only [e_fd, e_nck, e_pkt, e_pkf, e_gdtt, e_gdtf, e_gdft, e_gdff, e_ift, e_iff, e_not, e_ln, e_lnT, e_cp, e_cvi, e_ex20, e_ex21, e_ex30, e_ex31, e_ex32, e_add, e_sub, e_mul, e_quo, e_rem, e_and, e_or, e_xor, e_shl, e_shr, e_eql, e_neq, e_lss, e_leq, e_gtr, e_geq, e_beq, e_bne, e_peq1, e_peq2, e_pne1, e_pne2, e_zeq1, e_zeq2, e_zne1, e_zne2, e_feq1, e_fne1, e_feq2, e_fne2, e_seq, e_sne, e_ta1, e_ta2, Nat.zero_add, Nat.add_zero, Bool.not_true, Bool.not_false]
              rw [w32 (show b < 4294967296 by omega), w32 (show m < 4294967296 by omega)]
              refine bdq_r rfl ?_
              refine nw_r fun w1 r1 hk1 hz1 => ?_
              refine stn_r r1 rfl (show 0 + 6 ≤ 6 by decide) rfl fun w2 r2 hk2 hz2 => ?_
              have r2' : Row w2 w.heap.size 112 [U32 T.next, U32 0, U32 0, U32 0, U32 b, U32 m] := r2
              try simp only [e_fd, e_nck, e_pkt, e_pkf, e_gdtt, e_gdtf, e_gdft, e_gdff, e_ift, e_iff, e_not, e_ln, e_lnT, e_cp, e_cvi, e_ex20, e_ex21, e_ex30, e_ex31, e_ex32, e_add, e_sub, e_mul, e_quo, e_rem, e_and, e_or, e_xor, e_shl, e_shr, e_eql, e_neq, e_lss, e_leq, e_gtr, e_geq, e_beq, e_bne, e_peq1, e_peq2, e_pne1, e_pne2, e_zeq1, e_zeq2, e_zne1, e_zne2, e_feq1, e_fne1, e_feq2, e_fne2, e_seq, e_sne, e_ta1, e_ta2, Nat.zero_add, Nat.add_zero, Bool.not_true, Bool.not_false]
              refine ld1_r r2' rfl ?_
              try simp only [e_fd, e_nck, e_pkt, e_pkf, e_gdtt, e_gdtf, e_gdft, e_gdff, e_ift, e_iff, e_not, e_ln, e_lnT, e_cp, e_cvi, e_ex20, e_ex21, e_ex30, e_ex31, e_ex32, e_add, e_sub, e_mul, e_quo, e_rem, e_and, e_or, e_xor, e_shl, e_shr, e_eql, e_neq, e_lss, e_leq, e_gtr, e_geq, e_beq, e_bne, e_peq1, e_peq2, e_pne1, e_pne2, e_zeq1, e_zeq2, e_zne1, e_zne2, e_feq1, e_fne1, e_feq2, e_fne2, e_seq, e_sne, e_ta1, e_ta2, Nat.zero_add, Nat.add_zero, Bool.not_true, Bool.not_false]
              rw [show ((T.next : Nat) : Int) + 5 = ((T.next + 5 : Nat) : Int) by omega, w32 (by omega)]
              refine st1_r r2' (show 1 < 6 by decide) rfl fun w3 r3 hk3 hz3 => ?_
              have r3' : Row w3 w.heap.size 112 [U32 T.next, U32 (T.next + 5), U32 0, U32 0, U32 b, U32 m] := r3
              unfold s32_p4 s32_p4_d
              try simp only [e_fd, e_nck, e_pkt, e_pkf, e_gdtt, e_gdtf, e_gdft, e_gdff, e_ift, e_iff, e_not, e_ln, e_lnT, e_cp, e_cvi, e_ex20, e_ex21, e_ex30, e_ex31, e_ex32, e_add, e_sub, e_mul, e_quo, e_rem, e_and, e_or, e_xor, e_shl, e_shr, e_eql, e_neq, e_lss, e_leq, e_gtr, e_geq, e_beq, e_bne, e_peq1, e_peq2, e_pne1, e_pne2, e_zeq1, e_zeq2, e_zne1, e_zne2, e_feq1, e_fne1, e_feq2, e_fne2, e_seq, e_sne, e_ta1, e_ta2, Nat.zero_add, Nat.add_zero, Bool.not_true, Bool.not_false]
              refine ld1_r r3'.drw rfl ?_
              refine mapWords_ok (by omega) ⟨Below.refl _ _, ?_⟩
              try simp only [e_fd, e_nck, e_pkt, e_pkf, e_gdtt, e_gdtf, e_gdft, e_gdff, e_ift, e_iff, e_not, e_ln, e_lnT, e_cp, e_cvi, e_ex20, e_ex21, e_ex30, e_ex31, e_ex32, e_add, e_sub, e_mul, e_quo, e_rem, e_and, e_or, e_xor, e_shl, e_shr, e_eql, e_neq, e_lss, e_leq, e_gtr, e_geq, e_beq, e_bne, e_peq1, e_peq2, e_pne1, e_pne2, e_zeq1, e_zeq2, e_zne1, e_zne2, e_feq1, e_fne1, e_feq2, e_fne2, e_seq, e_sne, e_ta1, e_ta2, Nat.zero_add, Nat.add_zero, Bool.not_true, Bool.not_false]
              refine ⟨Below.refl _ _, ?_⟩
              rw [w32 (show mapW m < 4294967296 by omega), show ((T.next + 5 : Nat) : Int) + ((mapW m : Nat) : Int) = ((T.next + 5 + mapW m : Nat) : Int) by omega, w32 (by omega)]
              refine st1_r r3'.drw (show 2 < 6 by decide) rfl fun w4 r4 hk4 hz4 => ?_
              have r4' : Row w4 w.heap.size 112 [U32 T.next, U32 (T.next + 5), U32 (T.next + 5 + mapW m), U32 0, U32 b, U32 m] := r4
              unfold s32_p3
              try simp only [e_fd, e_nck, e_pkt, e_pkf, e_gdtt, e_gdtf, e_gdft, e_gdff, e_ift, e_iff, e_not, e_ln, e_lnT, e_cp, e_cvi, e_ex20, e_ex21, e_ex30, e_ex31, e_ex32, e_add, e_sub, e_mul, e_quo, e_rem, e_and, e_or, e_xor, e_shl, e_shr, e_eql, e_neq, e_lss, e_leq, e_gtr, e_geq, e_beq, e_bne, e_peq1, e_peq2, e_pne1, e_pne2, e_zeq1, e_zeq2, e_zne1, e_zne2, e_feq1, e_fne1, e_feq2, e_fne2, e_seq, e_sne, e_ta1, e_ta2, Nat.zero_add, Nat.add_zero, Bool.not_true, Bool.not_false]
              refine ld1_r r4' rfl ?_
              try simp only [e_fd, e_nck, e_pkt, e_pkf, e_gdtt, e_gdtf, e_gdft, e_gdff, e_ift, e_iff, e_not, e_ln, e_lnT, e_cp, e_cvi, e_ex20, e_ex21, e_ex30, e_ex31, e_ex32, e_add, e_sub, e_mul, e_quo, e_rem, e_and, e_or, e_xor, e_shl, e_shr, e_eql, e_neq, e_lss, e_leq, e_gtr, e_geq, e_beq, e_bne, e_peq1, e_peq2, e_pne1, e_pne2, e_zeq1, e_zeq2, e_zne1, e_zne2, e_feq1, e_fne1, e_feq2, e_fne2, e_seq, e_sne, e_ta1, e_ta2, Nat.zero_add, Nat.add_zero, Bool.not_true, Bool.not_false]
              rw [w32 (show 5 + mapW m + m * b < 4294967296 by omega), show ((T.next : Nat) : Int) + ((5 + mapW m + m * b : Nat) : Int) = ((T.next + (5 + mapW m + m * b) : Nat) : Int) by omega, w32 (by omega)]
              refine st1_r r4' (show 3 < 6 by decide) rfl fun w5 r5 hk5 hz5 => ?_
              have r5' : Row w5 w.heap.size 112 (shV (crSh T b m)) := r5
              have sz1 : w1.heap.size = w.heap.size + 1 := hz1
              have hk05 : Kp (fun _ => False) w w5 := (hkd.trans hk1).then (((hk2.trans hk3).trans (kp_drw.trans hk4)).trans hk5) (fun k hk (q : k = _) => by omega)
              have h5 := ha.kp' hk05
              have t5 := ht.kp' hk05
              have hsh5 : ShAt w5 w.heap.size 0 (crSh T b m) := ⟨_, r5', fun j hj => by rw [Nat.zero_add]⟩
              refine format_ok h5 t5 hsh5 hokS hs fun w6 M6 h6 st6 => ?_
              have t6 := t5.stA h5 st6
              have r6 := st6.kp.row r5' (h5.ntag r5' (by decide) (by decide) (by decide))
              simp only [bne_self_eq_false, e_fd, e_nck, e_pkt, e_pkf, e_gdtt, e_gdtf, e_gdft, e_gdff, e_ift, e_iff, e_not, e_ln, e_lnT, e_cp, e_cvi, e_ex20, e_ex21, e_ex30, e_ex31, e_ex32, e_add, e_sub, e_mul, e_quo, e_rem, e_and, e_or, e_xor, e_shl, e_shr, e_eql, e_neq, e_lss, e_leq, e_gtr, e_geq, e_beq, e_bne, e_peq1, e_peq2, e_pne1, e_pne2, e_zeq1, e_zeq2, e_zne1, e_zne2, e_feq1, e_fne1, e_feq2, e_fne2, e_seq, e_sne, e_ta1, e_ta2, Nat.zero_add, Nat.add_zero, Bool.not_true, Bool.not_false]
              refine ld1_r r6 rfl ?_
              refine st1_r t6.row (show 3 < 6 by decide) rfl fun w7 r7 hk7 hz7 => ?_
              have r7' : Row w7 tb 106 [P ab 0, U32 T.base, U32 T.wd, U32 (crSh T b m).fin, U32 T.lim, .slice (some ⟨pb, 0, none⟩) T.ps.length 8] := r7
              have r67 := hk7.row r6 (fun (q : _ = _) => row_ne r6 t6.row (by decide) q)
              unfold s32_p2 s32_p2_d
              try simp only [e_fd, e_nck, e_pkt, e_pkf, e_gdtt, e_gdtf, e_gdft, e_gdff, e_ift, e_iff, e_not, e_ln, e_lnT, e_cp, e_cvi, e_ex20, e_ex21, e_ex30, e_ex31, e_ex32, e_add, e_sub, e_mul, e_quo, e_rem, e_and, e_or, e_xor, e_shl, e_shr, e_eql, e_neq, e_lss, e_leq, e_gtr, e_geq, e_beq, e_bne, e_peq1, e_peq2, e_pne1, e_pne2, e_zeq1, e_zeq2, e_zne1, e_zne2, e_feq1, e_fne1, e_feq2, e_fne2, e_seq, e_sne, e_ta1, e_ta2, Nat.zero_add, Nat.add_zero, Bool.not_true, Bool.not_false]
              refine ld1_r r7'.drw rfl ?_
              refine ldn_r r67.drw (show 0 + 6 ≤ 6 by decide) ?_
              refine bsq_r (l := shV (crSh T b m)) rfl fun w8 r8 hk8 hz8 => ⟨hk8.below', ?_⟩
              obtain ⟨junk, ej, rp6⟩ := t6.pools
              have rp7 := hk7.row rp6 (fun (q : _ = _) => row_ne rp6 t6.row (by decide) q)
              have rp8 := hk8.row' rp7.drw
              have hrl : (rows shV T.ps).length = T.ps.length * 6 := rows_length shV_len T.ps
              have hbn : (drw w7).heap.size ≠ pb := by
                have := rp7.lt
                intro q
                have e7 : (drw w7).heap.size = w7.heap.size := rfl
                omega
              refine app_in rfl rfl rfl r8 rp8 (by rw [List.length_append, hrl, ej]; omega) (by omega) (by omega) fun w9 r9 hk9 => ?_
              have e9 : (rows shV T.ps ++ junk).take (T.ps.length * 6) ++ (shV (crSh T b m) ++ (rows shV T.ps ++ junk).drop (T.ps.length * 6 + 6)) = rows shV (T.ps ++ [crSh T b m]) ++ junk.drop 6 := by
                have ed : (rows shV T.ps ++ junk).drop (T.ps.length * 6 + 6) = junk.drop 6 := by
                  rw [List.drop_append, List.drop_of_length_le (by omega), List.nil_append, hrl, show T.ps.length * 6 + 6 - T.ps.length * 6 = 6 by omega]
                rw [List.take_left' hrl, ed, rows_append, List.append_assoc]
                simp [rows]
              rw [e9] at r9
              have r79 := hk9.row (hk8.row' r7'.drw) (fun (q : _ = _) => row_ne r7' rp7 (by decide) q)
              refine st1_r r79 (show 5 < 6 by decide) rfl fun w10 r10 hk10 hz10 => ?_
              have r10' : Row w10 tb 106 [P ab 0, U32 T.base, U32 T.wd, U32 (crSh T b m).fin, U32 T.lim, .slice (some ⟨pb, 0, none⟩) (T.ps.length + 1) 8] := r10
              unfold s32_p1
              try simp only [e_fd, e_nck, e_pkt, e_pkf, e_gdtt, e_gdtf, e_gdft, e_gdff, e_ift, e_iff, e_not, e_ln, e_lnT, e_cp, e_cvi, e_ex20, e_ex21, e_ex30, e_ex31, e_ex32, e_add, e_sub, e_mul, e_quo, e_rem, e_and, e_or, e_xor, e_shl, e_shr, e_eql, e_neq, e_lss, e_leq, e_gtr, e_geq, e_beq, e_bne, e_peq1, e_peq2, e_pne1, e_pne2, e_zeq1, e_zeq2, e_zne1, e_zne2, e_feq1, e_fne1, e_feq2, e_fne2, e_seq, e_sne, e_ta1, e_ta2, Nat.zero_add, Nat.add_zero, Bool.not_true, Bool.not_false]
              refine ld1_r r10' rfl ?_
              try simp only [e_fd, e_nck, e_pkt, e_pkf, e_gdtt, e_gdtf, e_gdft, e_gdff, e_ift, e_iff, e_not, e_ln, e_lnT, e_cp, e_cvi, e_ex20, e_ex21, e_ex30, e_ex31, e_ex32, e_add, e_sub, e_mul, e_quo, e_rem, e_and, e_or, e_xor, e_shl, e_shr, e_eql, e_neq, e_lss, e_leq, e_gtr, e_geq, e_beq, e_bne, e_peq1, e_peq2, e_pne1, e_pne2, e_zeq1, e_zeq2, e_zne1, e_zne2, e_feq1, e_fne1, e_feq2, e_fne2, e_seq, e_sne, e_ta1, e_ta2, Nat.zero_add, Nat.add_zero, Bool.not_true, Bool.not_false]
              rw [show (((T.ps.length + 1 : Nat) : Int) - 1) = ((T.ps.length : Nat) : Int) by omega, wrap64_id (by omega) (by omega)]
              have n7 : ∀ b, OwnA ab M6 b → ¬ b = tb := fun c hc q => h6.ntag t6.row (by decide) (by decide) (by decide) (q ▸ hc)
              have h7 := h6.frame hk7 n7
              have h8 := (h7.kp' (w' := drw w7) kp_drw).kp' hk8
              have h9 := h8.frame hk9 (fun c hc (q : c = pb) => h8.ntag rp8 (by decide) (by decide) (by decide) (q ▸ hc))
              have h10 := h9.frame hk10 (fun c hc (q : c = tb) => h9.ntag r79 (by decide) (by decide) (by decide) (q ▸ hc))
              have k610 : Kp (fun c => c = tb ∨ c = pb) w6 w10 := (((hk7.mono (T := fun c => c = tb ∨ c = pb) fun _ _ q => .inl q).trans (kp_drw.trans hk8.none)).trans (hk9.mono fun _ _ q => .inr q)).trans (hk10.mono fun _ _ q => .inl q)
              have sz05 := hk05.size
              refine hS w10 M6 h10 ?_ (fun c hc => (st6.own c hc).elim .inl (fun q => .inr (by omega))) st6.wb ⟨?_, junk.drop 6, ?_, hk10.row r9 (fun (q : _ = _) => row_ne r9 r79 (by decide) q)⟩
              · exact (hk05.none.trans (st6.kp.mono fun _ _ q => .inl q)).trans (k610.mono fun _ _ q => .inr q)
              · have el : (crT T (crSh T b m)).ps.length = T.ps.length + 1 := by show (T.ps ++ [_]).length = _; simp
                rw [el]; exact r10'
              · have el : (crT T (crSh T b m)).ps.length = T.ps.length + 1 := by show (T.ps ++ [_]).length = _; simp
                rw [el, List.length_drop, ej]; omega
end
end Go.Proofs.Qxb6500893aDoor
