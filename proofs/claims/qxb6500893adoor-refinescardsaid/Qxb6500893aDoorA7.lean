import Derived.Test.Qxb6500893aDoorA6
namespace Go.Proofs.Qxb6500893aDoor
open Go.Sh Go.RowKit
set_option linter.unusedVariables false
set_option linter.unusedSimpArgs false

section
variable {w w' : World} {ab tb pb p sb so : Nat} {M M' : Am} {A : Ar} {K : Value → World → Prop} {C : Nat → Prop} {s : Shp} {T : Tb}

theorem release_ok {a : Nat} (ha : Arn w ab M A) (ht : Tbl w tb pb ab T) (ok : T.Ok) (hs : A.sd.length ≤ 900000) (haN : a < 4294967296)
    (hN : ∀ w' k, k ≤ 4 → (∀ s ∈ T.ps, ¬ inP s a) → Arn w' ab M (tk A k) → StA w w' ab M M → K (I 8) w')
    (hS : ∀ w' M' k i (hi : i < T.ps.length), k ≤ 4 → inP T.ps[i] a → Arn w' ab M' (freeF (tk A k) T.ps[i] a).2 → StA w w' ab M M' → K (I (freeF (tk A k) T.ps[i] a).1) w') : cl Tryd.prog 35 #[P tb 0, U32 a] K w := by
  apply c35
  unfold s35_p1
  refine owner_ok ha ht ok haN (fun w1 k hk hno h1 st1 => ?_) (fun w1 k i hi hk hin h1 st1 => ?_)
  · simp only [e_fd, e_nck, e_pkt, e_pkf, e_gdtt, e_gdtf, e_gdft, e_gdff, e_ift, e_iff, e_not, e_ln, e_lnT, e_cp, e_cvi, e_ex20, e_ex21, e_ex30, e_ex31, e_ex32, e_add, e_sub, e_mul, e_quo, e_rem, e_and, e_or, e_xor, e_shl, e_shr, e_eql, e_neq, e_lss, e_leq, e_gtr, e_geq, e_beq, e_bne, e_peq1, e_peq2, e_pne1, e_pne2, e_zeq1, e_zeq2, e_zne1, e_zne2, e_feq1, e_fne1, e_feq2, e_fne2, e_seq, e_sne, e_ta1, e_ta2, Nat.zero_add, Nat.add_zero, Bool.not_true, Bool.not_false]
    exact hN w1 k hk hno h1 st1
  · simp only [bne_self_eq_false, e_fd, e_nck, e_pkt, e_pkf, e_gdtt, e_gdtf, e_gdft, e_gdff, e_ift, e_iff, e_not, e_ln, e_lnT, e_cp, e_cvi, e_ex20, e_ex21, e_ex30, e_ex31, e_ex32, e_add, e_sub, e_mul, e_quo, e_rem, e_and, e_or, e_xor, e_shl, e_shr, e_eql, e_neq, e_lss, e_leq, e_gtr, e_geq, e_beq, e_bne, e_peq1, e_peq2, e_pne1, e_pne2, e_zeq1, e_zeq2, e_zne1, e_zne2, e_feq1, e_fne1, e_feq2, e_fne2, e_seq, e_sne, e_ta1, e_ta2, Nat.zero_add, Nat.add_zero, Bool.not_true, Bool.not_false]
    have t1 := ht.stA ha st1
    refine free_ok h1 t1 ok hs haN (fun q => absurd ⟨by omega, by omega⟩ q) (fun j hj hij w2 M2 h2 st2 => ?_)
    have : j = i := by omega
    subst this
    exact hS w2 M2 k j hj hk hin h2 (st1.trans st2)

/-- the figures of a pool -/
def stF (A : Ar) (s : Shp) : (Nat × Nat × Nat × Nat) × Int × Ar :=
  if A.ws s.ctl ≠ sealN s then ((0, 0, 0, 0), 11, ld A)
  else if s.n < A.ws (s.ctl + 3) ∨ A.ws (s.ctl + 3) < A.ws (s.ctl + 2) then ((0, 0, 0, 0), 11, ld (ld (ld (ld A))))
  else ((A.ws (s.ctl + 2), s.n - A.ws (s.ctl + 2), A.ws (s.ctl + 3), A.ws (s.ctl + 4)), 0, ld (ld (ld (ld A))))
def stV (q : Nat × Nat × Nat × Nat) : List Value := [U32 q.1, U32 q.2.1, U32 q.2.2.1, U64 q.2.2.2]

theorem st_end {t4 : Nat} {l : List Value} {q : Nat × Nat × Nat × Nat} {c : Value} (r4 : Row w t4 38 l) (hl : l.length = 4) (hK : ∀ w', Kp (fun b => b = t4) w w' → K (.tuple #[.agg (stV q).toArray, c]) w') :
    stn 4 (P t4 0) (.agg (stV q).toArray) (fun w' => ldn 4 (P t4 0) (fun r0 _ => K (.tuple #[r0, c]) w') w') w := by
  refine stn_r r4 rfl (show 0 + 4 ≤ l.length by omega) rfl fun w2 r2 hk2 hz2 => ?_
  have e : l.drop (0 + 4) = [] := List.drop_of_length_le (by omega)
  rw [e] at r2
  refine ldn_r r2 (show 0 + 4 ≤ _ by simp [stV]) ?_
  exact hK w2 hk2

theorem stats_ok {id : Int} (ha : Arn w ab M A) (ht : Tbl w tb pb ab T) (ok : T.Ok)
    (hN : ¬ (0 ≤ id ∧ id < T.ps.length) → ∀ w', Kp (fun _ => False) w w' → K (.tuple #[.agg (stV (0, 0, 0, 0)).toArray, I 6]) w')
    (hS : ∀ i (hi : i < T.ps.length), id = (i : Int) → ∀ w', Arn w' ab M (stF A T.ps[i]).2.2 → StA w w' ab M M → K (.tuple #[.agg (stV (stF A T.ps[i]).1).toArray, I (stF A T.ps[i]).2.1]) w') : cl Tryd.prog 37 #[P tb 0, I id] K w := by
  apply c37
  unfold s37_p5
  refine nw_r fun w1 r1 hk1 hz1 => ?_
  have t1 := ht.kp' hk1
  have h1 := ha.kp' hk1
  refine shapeOf_ok t1 (fun hn => ?_) (fun i hi hid hsh => ?_)
  · simp only [show ((6 : Int) != 0) = true from rfl, e_fd, e_nck, e_pkt, e_pkf, e_gdtt, e_gdtf, e_gdft, e_gdff, e_ift, e_iff, e_not, e_ln, e_lnT, e_cp, e_cvi, e_ex20, e_ex21, e_ex30, e_ex31, e_ex32, e_add, e_sub, e_mul, e_quo, e_rem, e_and, e_or, e_xor, e_shl, e_shr, e_eql, e_neq, e_lss, e_leq, e_gtr, e_geq, e_beq, e_bne, e_peq1, e_peq2, e_pne1, e_pne2, e_zeq1, e_zeq2, e_zne1, e_zne2, e_feq1, e_fne1, e_feq2, e_fne2, e_seq, e_sne, e_ta1, e_ta2, Nat.zero_add, Nat.add_zero, Bool.not_true, Bool.not_false]
    refine bdq_r rfl ?_
    refine stn_r r1 rfl (show 0 + 4 ≤ 4 by decide) rfl fun w2 r2 hk2 hz2 => ?_
    refine ldn_r r2 (show 0 + 4 ≤ 4 by decide) ?_
    exact hN hn w2 (hk1.then hk2 (fun k hk (q : k = _) => by omega))
  · have hS := hS i hi hid
    obtain ⟨hok, _, _⟩ := ok.sh _ (List.getElem_mem hi)
    generalize T.ps[i] = s at *
    have hc := hok.ctl_lt
    have hlim := hok.lim
    have hn2 := hok.n2
    have rg := ha.rng
    simp only [bne_self_eq_false, e_fd, e_nck, e_pkt, e_pkf, e_gdtt, e_gdtf, e_gdft, e_gdff, e_ift, e_iff, e_not, e_ln, e_lnT, e_cp, e_cvi, e_ex20, e_ex21, e_ex30, e_ex31, e_ex32, e_add, e_sub, e_mul, e_quo, e_rem, e_and, e_or, e_xor, e_shl, e_shr, e_eql, e_neq, e_lss, e_leq, e_gtr, e_geq, e_beq, e_bne, e_peq1, e_peq2, e_pne1, e_pne2, e_zeq1, e_zeq2, e_zne1, e_zne2, e_feq1, e_fne1, e_feq2, e_fne2, e_seq, e_sne, e_ta1, e_ta2, Nat.zero_add, Nat.add_zero, Bool.not_true, Bool.not_false]
    refine ld1_r t1.row rfl ?_
    refine newPort h1 fun w2 h2 hk2 => ?_
    have hsh2 := hsh.kp' hk2
    have r12 := hk2.row' r1
    have fin : ∀ {w' M'}, StP w2 w' ab w1.heap.size M M' → StA w w' ab M M' := fun st => st.toA (hk1.trans hk2) (by omega)
    refine sealed_ok h2 hsh2 (by omega) fun w3 h3 st3 => ?_
    have hsh3 := h2.sh st3 hsh2
    have r13 := h2.keep st3 r12 (by decide) (by decide) (by decide) (by decide)
    unfold stF at hS
    have t4n : w.heap.size < w2.heap.size := by have := hk2.size; omega
    by_cases e0 : A.ws s.ctl = sealN s
    · have e : (A.ws s.ctl == sealN s) = true := by simpa using e0
      simp only [e, e_fd, e_nck, e_pkt, e_pkf, e_gdtt, e_gdtf, e_gdft, e_gdff, e_ift, e_iff, e_not, e_ln, e_lnT, e_cp, e_cvi, e_ex20, e_ex21, e_ex30, e_ex31, e_ex32, e_add, e_sub, e_mul, e_quo, e_rem, e_and, e_or, e_xor, e_shl, e_shr, e_eql, e_neq, e_lss, e_leq, e_gtr, e_geq, e_beq, e_bne, e_peq1, e_peq2, e_pne1, e_pne2, e_zeq1, e_zeq2, e_zne1, e_zne2, e_feq1, e_fne1, e_feq2, e_fne2, e_seq, e_sne, e_ta1, e_ta2, Nat.zero_add, Nat.add_zero, Bool.not_true, Bool.not_false]
      rw [if_neg (show ¬ A.ws s.ctl ≠ sealN s by simpa using e0)] at hS
      refine hsh3.ld (k := 0) (by decide) rfl rfl ?_
      try simp only [e_fd, e_nck, e_pkt, e_pkf, e_gdtt, e_gdtf, e_gdft, e_gdff, e_ift, e_iff, e_not, e_ln, e_lnT, e_cp, e_cvi, e_ex20, e_ex21, e_ex30, e_ex31, e_ex32, e_add, e_sub, e_mul, e_quo, e_rem, e_and, e_or, e_xor, e_shl, e_shr, e_eql, e_neq, e_lss, e_leq, e_gtr, e_geq, e_beq, e_bne, e_peq1, e_peq2, e_pne1, e_pne2, e_zeq1, e_zeq2, e_zne1, e_zne2, e_feq1, e_fne1, e_feq2, e_fne2, e_seq, e_sne, e_ta1, e_ta2, Nat.zero_add, Nat.add_zero, Bool.not_true, Bool.not_false]
      rw [ctlA (z := 2) (k := 2) rfl hok (by decide)]
      refine pload_ok h3 (by omega) fun w4 h4 st4 => ?_
      have hsh4 := h3.sh st4 hsh3
      refine hsh4.ld (k := 0) (by decide) rfl rfl ?_
      try simp only [e_fd, e_nck, e_pkt, e_pkf, e_gdtt, e_gdtf, e_gdft, e_gdff, e_ift, e_iff, e_not, e_ln, e_lnT, e_cp, e_cvi, e_ex20, e_ex21, e_ex30, e_ex31, e_ex32, e_add, e_sub, e_mul, e_quo, e_rem, e_and, e_or, e_xor, e_shl, e_shr, e_eql, e_neq, e_lss, e_leq, e_gtr, e_geq, e_beq, e_bne, e_peq1, e_peq2, e_pne1, e_pne2, e_zeq1, e_zeq2, e_zne1, e_zne2, e_feq1, e_fne1, e_feq2, e_fne2, e_seq, e_sne, e_ta1, e_ta2, Nat.zero_add, Nat.add_zero, Bool.not_true, Bool.not_false]
      rw [ctlA (z := 3) (k := 3) rfl hok (by decide)]
      refine pload_ok h4 (by omega) fun w5 h5 st5 => ?_
      have hsh5 := h4.sh st5 hsh4
      refine hsh5.ld (k := 0) (by decide) rfl rfl ?_
      try simp only [e_fd, e_nck, e_pkt, e_pkf, e_gdtt, e_gdtf, e_gdft, e_gdff, e_ift, e_iff, e_not, e_ln, e_lnT, e_cp, e_cvi, e_ex20, e_ex21, e_ex30, e_ex31, e_ex32, e_add, e_sub, e_mul, e_quo, e_rem, e_and, e_or, e_xor, e_shl, e_shr, e_eql, e_neq, e_lss, e_leq, e_gtr, e_geq, e_beq, e_bne, e_peq1, e_peq2, e_pne1, e_pne2, e_zeq1, e_zeq2, e_zne1, e_zne2, e_feq1, e_fne1, e_feq2, e_fne2, e_seq, e_sne, e_ta1, e_ta2, Nat.zero_add, Nat.add_zero, Bool.not_true, Bool.not_false]
      rw [ctlA (z := 4) (k := 4) rfl hok (by decide)]
      refine pload_ok h5 (by omega) fun w6 h6 st6 => ?_
      have hsh6 := h5.sh st6 hsh5
      have st26 := ((st3.trans st4).trans st5).trans st6
      have r16 := h2.keep st26 r12 (by decide) (by decide) (by decide) (by decide)
      try simp only [e_fd, e_nck, e_pkt, e_pkf, e_gdtt, e_gdtf, e_gdft, e_gdff, e_ift, e_iff, e_not, e_ln, e_lnT, e_cp, e_cvi, e_ex20, e_ex21, e_ex30, e_ex31, e_ex32, e_add, e_sub, e_mul, e_quo, e_rem, e_and, e_or, e_xor, e_shl, e_shr, e_eql, e_neq, e_lss, e_leq, e_gtr, e_geq, e_beq, e_bne, e_peq1, e_peq2, e_pne1, e_pne2, e_zeq1, e_zeq2, e_zne1, e_zne2, e_feq1, e_fne1, e_feq2, e_fne2, e_seq, e_sne, e_ta1, e_ta2, Nat.zero_add, Nat.add_zero, Bool.not_true, Bool.not_false]
      refine ld1_r h6.port rfl ?_
      simp only [bne_self_eq_false, e_fd, e_nck, e_pkt, e_pkf, e_gdtt, e_gdtf, e_gdft, e_gdff, e_ift, e_iff, e_not, e_ln, e_lnT, e_cp, e_cvi, e_ex20, e_ex21, e_ex30, e_ex31, e_ex32, e_add, e_sub, e_mul, e_quo, e_rem, e_and, e_or, e_xor, e_shl, e_shr, e_eql, e_neq, e_lss, e_leq, e_gtr, e_geq, e_beq, e_bne, e_peq1, e_peq2, e_pne1, e_pne2, e_zeq1, e_zeq2, e_zne1, e_zne2, e_feq1, e_fne1, e_feq2, e_fne2, e_seq, e_sne, e_ta1, e_ta2, Nat.zero_add, Nat.add_zero, Bool.not_true, Bool.not_false]
      unfold s37_p4
      try simp only [e_fd, e_nck, e_pkt, e_pkf, e_gdtt, e_gdtf, e_gdft, e_gdff, e_ift, e_iff, e_not, e_ln, e_lnT, e_cp, e_cvi, e_ex20, e_ex21, e_ex30, e_ex31, e_ex32, e_add, e_sub, e_mul, e_quo, e_rem, e_and, e_or, e_xor, e_shl, e_shr, e_eql, e_neq, e_lss, e_leq, e_gtr, e_geq, e_beq, e_bne, e_peq1, e_peq2, e_pne1, e_pne2, e_zeq1, e_zeq2, e_zne1, e_zne2, e_feq1, e_fne1, e_feq2, e_fne2, e_seq, e_sne, e_ta1, e_ta2, Nat.zero_add, Nat.add_zero, Bool.not_true, Bool.not_false]
      unfold s37_p1
      try simp only [e_fd, e_nck, e_pkt, e_pkf, e_gdtt, e_gdtf, e_gdft, e_gdff, e_ift, e_iff, e_not, e_ln, e_lnT, e_cp, e_cvi, e_ex20, e_ex21, e_ex30, e_ex31, e_ex32, e_add, e_sub, e_mul, e_quo, e_rem, e_and, e_or, e_xor, e_shl, e_shr, e_eql, e_neq, e_lss, e_leq, e_gtr, e_geq, e_beq, e_bne, e_peq1, e_peq2, e_pne1, e_pne2, e_zeq1, e_zeq2, e_zne1, e_zne2, e_feq1, e_fne1, e_feq2, e_fne2, e_seq, e_sne, e_ta1, e_ta2, Nat.zero_add, Nat.add_zero, Bool.not_true, Bool.not_false]
      refine hsh6.ld (k := 5) (by decide) rfl rfl ?_
      try simp only [e_fd, e_nck, e_pkt, e_pkf, e_gdtt, e_gdtf, e_gdft, e_gdff, e_ift, e_iff, e_not, e_ln, e_lnT, e_cp, e_cvi, e_ex20, e_ex21, e_ex30, e_ex31, e_ex32, e_add, e_sub, e_mul, e_quo, e_rem, e_and, e_or, e_xor, e_shl, e_shr, e_eql, e_neq, e_lss, e_leq, e_gtr, e_geq, e_beq, e_bne, e_peq1, e_peq2, e_pne1, e_pne2, e_zeq1, e_zeq2, e_zne1, e_zne2, e_feq1, e_fne1, e_feq2, e_fne2, e_seq, e_sne, e_ta1, e_ta2, Nat.zero_add, Nat.add_zero, Bool.not_true, Bool.not_false]
      rw [w64 (show s.n < 18446744073709551616 by omega)]
      have b2 := rg (s.ctl + 2) (by omega)
      have b3 := rg (s.ctl + 3) (by omega)
      have b4 := rg (s.ctl + 4) (by omega)
      have fin6 : ∀ w', Kp (fun b => b = w.heap.size) w6 w' → Arn w' ab M (ld (ld (ld (ld A)))) ∧ StA w w' ab M M := fun w' hk => ⟨h6.arn.frame hk (fun b hb (q : b = _) => h6.arn.ntag r16 (by decide) (by decide) (by decide) (q ▸ hb)), ⟨(fin st26).kp.then hk (fun k hk (q : k = _) => by omega), (fin st26).wb, (fin st26).own⟩⟩
      have bad : (s.n < A.ws (s.ctl + 3) ∨ A.ws (s.ctl + 3) < A.ws (s.ctl + 2)) → stn 4 (P w.heap.size 0) (.agg (stV (0, 0, 0, 0)).toArray) (fun w' => ldn 4 (P w.heap.size 0) (fun r0 _ => K (.tuple #[r0, I 11]) w') w') w6 := by
        intro q
        rw [if_pos q] at hS
        refine st_end r16 rfl fun w7 hk7 => ?_
        obtain ⟨a1, a2⟩ := fin6 w7 hk7
        exact hS w7 a1 a2
      by_cases q1 : s.n < A.ws (s.ctl + 3)
      · have q1' : ((s.n : Nat) : Int) < ((A.ws (s.ctl + 3) : Nat) : Int) := by omega
        simp only [q1', decide_true, e_fd, e_nck, e_pkt, e_pkf, e_gdtt, e_gdtf, e_gdft, e_gdff, e_ift, e_iff, e_not, e_ln, e_lnT, e_cp, e_cvi, e_ex20, e_ex21, e_ex30, e_ex31, e_ex32, e_add, e_sub, e_mul, e_quo, e_rem, e_and, e_or, e_xor, e_shl, e_shr, e_eql, e_neq, e_lss, e_leq, e_gtr, e_geq, e_beq, e_bne, e_peq1, e_peq2, e_pne1, e_pne2, e_zeq1, e_zeq2, e_zne1, e_zne2, e_feq1, e_fne1, e_feq2, e_fne2, e_seq, e_sne, e_ta1, e_ta2, Nat.zero_add, Nat.add_zero, Bool.not_true, Bool.not_false]
        refine bdq_r rfl ?_
        exact bad (.inl q1)
      · have q1' : ¬ ((s.n : Nat) : Int) < ((A.ws (s.ctl + 3) : Nat) : Int) := by omega
        simp only [q1', decide_false, e_fd, e_nck, e_pkt, e_pkf, e_gdtt, e_gdtf, e_gdft, e_gdff, e_ift, e_iff, e_not, e_ln, e_lnT, e_cp, e_cvi, e_ex20, e_ex21, e_ex30, e_ex31, e_ex32, e_add, e_sub, e_mul, e_quo, e_rem, e_and, e_or, e_xor, e_shl, e_shr, e_eql, e_neq, e_lss, e_leq, e_gtr, e_geq, e_beq, e_bne, e_peq1, e_peq2, e_pne1, e_pne2, e_zeq1, e_zeq2, e_zne1, e_zne2, e_feq1, e_fne1, e_feq2, e_fne2, e_seq, e_sne, e_ta1, e_ta2, Nat.zero_add, Nat.add_zero, Bool.not_true, Bool.not_false]
        by_cases q2 : A.ws (s.ctl + 3) < A.ws (s.ctl + 2)
        · have q2' : ((A.ws (s.ctl + 3) : Nat) : Int) < ((A.ws (s.ctl + 2) : Nat) : Int) := by omega
          simp only [q2', decide_true, e_fd, e_nck, e_pkt, e_pkf, e_gdtt, e_gdtf, e_gdft, e_gdff, e_ift, e_iff, e_not, e_ln, e_lnT, e_cp, e_cvi, e_ex20, e_ex21, e_ex30, e_ex31, e_ex32, e_add, e_sub, e_mul, e_quo, e_rem, e_and, e_or, e_xor, e_shl, e_shr, e_eql, e_neq, e_lss, e_leq, e_gtr, e_geq, e_beq, e_bne, e_peq1, e_peq2, e_pne1, e_pne2, e_zeq1, e_zeq2, e_zne1, e_zne2, e_feq1, e_fne1, e_feq2, e_fne2, e_seq, e_sne, e_ta1, e_ta2, Nat.zero_add, Nat.add_zero, Bool.not_true, Bool.not_false]
          refine bdq_r rfl ?_
          exact bad (.inr q2)
        · have q2' : ¬ ((A.ws (s.ctl + 3) : Nat) : Int) < ((A.ws (s.ctl + 2) : Nat) : Int) := by omega
          simp only [q2', decide_false, e_fd, e_nck, e_pkt, e_pkf, e_gdtt, e_gdtf, e_gdft, e_gdff, e_ift, e_iff, e_not, e_ln, e_lnT, e_cp, e_cvi, e_ex20, e_ex21, e_ex30, e_ex31, e_ex32, e_add, e_sub, e_mul, e_quo, e_rem, e_and, e_or, e_xor, e_shl, e_shr, e_eql, e_neq, e_lss, e_leq, e_gtr, e_geq, e_beq, e_bne, e_peq1, e_peq2, e_pne1, e_pne2, e_zeq1, e_zeq2, e_zne1, e_zne2, e_feq1, e_fne1, e_feq2, e_fne2, e_seq, e_sne, e_ta1, e_ta2, Nat.zero_add, Nat.add_zero, Bool.not_true, Bool.not_false]
          rw [if_neg (by omega)] at hS
          rw [w32 (show A.ws (s.ctl + 2) < 4294967296 by omega), w32 (show A.ws (s.ctl + 3) < 4294967296 by omega)]
          refine hsh6.ld (k := 5) (by decide) rfl rfl ?_
          try simp only [e_fd, e_nck, e_pkt, e_pkf, e_gdtt, e_gdtf, e_gdft, e_gdff, e_ift, e_iff, e_not, e_ln, e_lnT, e_cp, e_cvi, e_ex20, e_ex21, e_ex30, e_ex31, e_ex32, e_add, e_sub, e_mul, e_quo, e_rem, e_and, e_or, e_xor, e_shl, e_shr, e_eql, e_neq, e_lss, e_leq, e_gtr, e_geq, e_beq, e_bne, e_peq1, e_peq2, e_pne1, e_pne2, e_zeq1, e_zeq2, e_zne1, e_zne2, e_feq1, e_fne1, e_feq2, e_fne2, e_seq, e_sne, e_ta1, e_ta2, Nat.zero_add, Nat.add_zero, Bool.not_true, Bool.not_false]
          rw [show ((s.n : Nat) : Int) - ((A.ws (s.ctl + 2) : Nat) : Int) = ((s.n - A.ws (s.ctl + 2) : Nat) : Int) by omega, w32 (show s.n - A.ws (s.ctl + 2) < 4294967296 by omega)]
          refine bdq_r (l := stV (A.ws (s.ctl + 2), s.n - A.ws (s.ctl + 2), A.ws (s.ctl + 3), A.ws (s.ctl + 4))) rfl ?_
          refine st_end r16 rfl fun w7 hk7 => ?_
          obtain ⟨a1, a2⟩ := fin6 w7 hk7
          exact hS w7 a1 a2
    · have e : (A.ws s.ctl == sealN s) = false := by simpa using e0
      simp only [e, e_fd, e_nck, e_pkt, e_pkf, e_gdtt, e_gdtf, e_gdft, e_gdff, e_ift, e_iff, e_not, e_ln, e_lnT, e_cp, e_cvi, e_ex20, e_ex21, e_ex30, e_ex31, e_ex32, e_add, e_sub, e_mul, e_quo, e_rem, e_and, e_or, e_xor, e_shl, e_shr, e_eql, e_neq, e_lss, e_leq, e_gtr, e_geq, e_beq, e_bne, e_peq1, e_peq2, e_pne1, e_pne2, e_zeq1, e_zeq2, e_zne1, e_zne2, e_feq1, e_fne1, e_feq2, e_fne2, e_seq, e_sne, e_ta1, e_ta2, Nat.zero_add, Nat.add_zero, Bool.not_true, Bool.not_false]
      rw [if_pos e0] at hS
      refine bdq_r rfl ?_
      refine por_ok h3 ?_
      refine st_end (q := (0, 0, 0, 0)) r13 rfl fun w7 hk7 => ?_
      exact hS w7 (h3.arn.frame hk7 (fun b hb (q : b = _) => h3.arn.ntag r13 (by decide) (by decide) (by decide) (q ▸ hb))) ⟨(fin st3).kp.then hk7 (fun k hk (q : k = _) => by omega), (fin st3).wb, (fin st3).own⟩

theorem info_ok {id : Int} (ht : Tbl w tb pb ab T)
    (hN : ¬ (0 ≤ id ∧ id < T.ps.length) → ∀ w', Kp (fun _ => False) w w' → K (.tuple #[.agg [U32 0, U32 0, U32 0].toArray, I 6]) w')
    (hS : ∀ i (hi : i < T.ps.length), id = (i : Int) → ∀ w', Kp (fun _ => False) w w' → K (.tuple #[.agg [U32 T.ps[i].fst, U32 T.ps[i].bw, U32 T.ps[i].n].toArray, I 0]) w') : cl Tryd.prog 22 #[P tb 0, I id] K w := by
  apply c22
  unfold s22_p3
  refine nw_r fun w1 r1 hk1 hz1 => ?_
  have t1 := ht.kp' hk1
  refine shapeOf_ok t1 (fun hn => ?_) (fun i hi hid hsh => ?_)
  · simp only [show ((6 : Int) != 0) = true from rfl, e_fd, e_nck, e_pkt, e_pkf, e_gdtt, e_gdtf, e_gdft, e_gdff, e_ift, e_iff, e_not, e_ln, e_lnT, e_cp, e_cvi, e_ex20, e_ex21, e_ex30, e_ex31, e_ex32, e_add, e_sub, e_mul, e_quo, e_rem, e_and, e_or, e_xor, e_shl, e_shr, e_eql, e_neq, e_lss, e_leq, e_gtr, e_geq, e_beq, e_bne, e_peq1, e_peq2, e_pne1, e_pne2, e_zeq1, e_zeq2, e_zne1, e_zne2, e_feq1, e_fne1, e_feq2, e_fne2, e_seq, e_sne, e_ta1, e_ta2, Nat.zero_add, Nat.add_zero, Bool.not_true, Bool.not_false]
    refine bdq_r rfl ?_
    refine stn_r r1 rfl (show 0 + 3 ≤ 3 by decide) rfl fun w2 r2 hk2 hz2 => ?_
    refine ldn_r r2 (show 0 + 3 ≤ 3 by decide) ?_
    exact hN hn w2 (hk1.then hk2 (fun k hk (q : k = _) => by omega))
  · have hS := hS i hi hid
    generalize T.ps[i] = s at *
    simp only [bne_self_eq_false, e_fd, e_nck, e_pkt, e_pkf, e_gdtt, e_gdtf, e_gdft, e_gdff, e_ift, e_iff, e_not, e_ln, e_lnT, e_cp, e_cvi, e_ex20, e_ex21, e_ex30, e_ex31, e_ex32, e_add, e_sub, e_mul, e_quo, e_rem, e_and, e_or, e_xor, e_shl, e_shr, e_eql, e_neq, e_lss, e_leq, e_gtr, e_geq, e_beq, e_bne, e_peq1, e_peq2, e_pne1, e_pne2, e_zeq1, e_zeq2, e_zne1, e_zne2, e_feq1, e_fne1, e_feq2, e_fne2, e_seq, e_sne, e_ta1, e_ta2, Nat.zero_add, Nat.add_zero, Bool.not_true, Bool.not_false]
    unfold s22_p2 s22_p2_d
    try simp only [e_fd, e_nck, e_pkt, e_pkf, e_gdtt, e_gdtf, e_gdft, e_gdff, e_ift, e_iff, e_not, e_ln, e_lnT, e_cp, e_cvi, e_ex20, e_ex21, e_ex30, e_ex31, e_ex32, e_add, e_sub, e_mul, e_quo, e_rem, e_and, e_or, e_xor, e_shl, e_shr, e_eql, e_neq, e_lss, e_leq, e_gtr, e_geq, e_beq, e_bne, e_peq1, e_peq2, e_pne1, e_pne2, e_zeq1, e_zeq2, e_zne1, e_zne2, e_feq1, e_fne1, e_feq2, e_fne2, e_seq, e_sne, e_ta1, e_ta2, Nat.zero_add, Nat.add_zero, Bool.not_true, Bool.not_false]
    have hd := hsh.kp' (w' := drw w1) kp_drw
    refine hd.ld (k := 2) (by decide) rfl rfl ?_
    refine hd.ld (k := 4) (by decide) rfl rfl ?_
    refine hd.ld (k := 5) (by decide) rfl rfl ?_
    refine bdq_r (l := [U32 s.fst, U32 s.bw, U32 s.n]) rfl ?_
    refine stn_r r1.drw rfl (show 0 + 3 ≤ 3 by decide) rfl fun w2 r2 hk2 hz2 => ?_
    unfold s22_p1
    refine ldn_r r2 (show 0 + 3 ≤ 3 by decide) ?_
    exact hS w2 ((hk1.trans kp_drw).then hk2 (fun k hk (q : k = _) => by omega))

def openC (b n : Nat) : Int := if n = 0 ∨ 4096 < b + n then 2 else 0
def openT (b n : Nat) : Tb := ⟨b, n, b, b + n, []⟩
theorem openT_ok {b n : Nat} (h : openC b n = 0) : (openT b n).Ok := by
  unfold openC at h
  have h' : ¬ (n = 0 ∨ 4096 < b + n) := fun q => by rw [if_pos q] at h; cases h
  exact ⟨rfl, by show b + n ≤ 4096; omega, by show 1 ≤ n; omega, Nat.le_refl _, by show b ≤ b + n; omega, fun s hs => by simp [openT] at hs, by simp [openT], by simp [openT]⟩
theorem new_ok {b n : Nat} (ha : Arn w ab M A) (hb : b < 4294967296) (hn : n < 4294967296)
    (hN : openC b n ≠ 0 → ∀ w', Kp (fun _ => False) w w' → K (.tuple #[.pointer none, I (openC b n)]) w')
    (hS : openC b n = 0 → ∀ w' tb pb, w.heap.size ≤ tb → w.heap.size ≤ pb → Kp (fun _ => False) w w' → Tbl w' tb pb ab (openT b n) → K (.tuple #[P tb 0, I 0]) w') : cl Tryd.prog 29 #[P ab 0, .agg [U32 b, U32 n].toArray] K w := by
  apply c29
  unfold s29_p3
  refine nw_r fun w1 r1 hk1 hz1 => ?_
  have r1' : Row w1 w.heap.size 83 [U32 b, U32 n] := r1
  have h1 := ha.kp' hk1
  try simp only [e_fd, e_nck, e_pkt, e_pkf, e_gdtt, e_gdtf, e_gdft, e_gdff, e_ift, e_iff, e_not, e_ln, e_lnT, e_cp, e_cvi, e_ex20, e_ex21, e_ex30, e_ex31, e_ex32, e_add, e_sub, e_mul, e_quo, e_rem, e_and, e_or, e_xor, e_shl, e_shr, e_eql, e_neq, e_lss, e_leq, e_gtr, e_geq, e_beq, e_bne, e_peq1, e_peq2, e_pne1, e_pne2, e_zeq1, e_zeq2, e_zne1, e_zne2, e_feq1, e_fne1, e_feq2, e_fne2, e_seq, e_sne, e_ta1, e_ta2, Nat.zero_add, Nat.add_zero, Bool.not_true, Bool.not_false]
  refine ld1_r r1' rfl ?_
  try simp only [e_fd, e_nck, e_pkt, e_pkf, e_gdtt, e_gdtf, e_gdft, e_gdff, e_ift, e_iff, e_not, e_ln, e_lnT, e_cp, e_cvi, e_ex20, e_ex21, e_ex30, e_ex31, e_ex32, e_add, e_sub, e_mul, e_quo, e_rem, e_and, e_or, e_xor, e_shl, e_shr, e_eql, e_neq, e_lss, e_leq, e_gtr, e_geq, e_beq, e_bne, e_peq1, e_peq2, e_pne1, e_pne2, e_zeq1, e_zeq2, e_zne1, e_zne2, e_feq1, e_fne1, e_feq2, e_fne2, e_seq, e_sne, e_ta1, e_ta2, Nat.zero_add, Nat.add_zero, Bool.not_true, Bool.not_false]
  unfold openC at hN hS
  by_cases c0 : n = 0
  · have e : (((n : Nat) : Int) == 0) = true := by rw [c0]; rfl
    simp only [e, e_fd, e_nck, e_pkt, e_pkf, e_gdtt, e_gdtf, e_gdft, e_gdff, e_ift, e_iff, e_not, e_ln, e_lnT, e_cp, e_cvi, e_ex20, e_ex21, e_ex30, e_ex31, e_ex32, e_add, e_sub, e_mul, e_quo, e_rem, e_and, e_or, e_xor, e_shl, e_shr, e_eql, e_neq, e_lss, e_leq, e_gtr, e_geq, e_beq, e_bne, e_peq1, e_peq2, e_pne1, e_pne2, e_zeq1, e_zeq2, e_zne1, e_zne2, e_feq1, e_fne1, e_feq2, e_fne2, e_seq, e_sne, e_ta1, e_ta2, Nat.zero_add, Nat.add_zero, Bool.not_true, Bool.not_false]
    rw [if_pos (.inl c0)] at hN
    exact hN (by decide) w1 hk1
  · have e : (((n : Nat) : Int) == 0) = false := by rw [beq_eq_false_iff_ne]; omega
    simp only [e, e_fd, e_nck, e_pkt, e_pkf, e_gdtt, e_gdtf, e_gdft, e_gdff, e_ift, e_iff, e_not, e_ln, e_lnT, e_cp, e_cvi, e_ex20, e_ex21, e_ex30, e_ex31, e_ex32, e_add, e_sub, e_mul, e_quo, e_rem, e_and, e_or, e_xor, e_shl, e_shr, e_eql, e_neq, e_lss, e_leq, e_gtr, e_geq, e_beq, e_bne, e_peq1, e_peq2, e_pne1, e_pne2, e_zeq1, e_zeq2, e_zne1, e_zne2, e_feq1, e_fne1, e_feq2, e_fne2, e_seq, e_sne, e_ta1, e_ta2, Nat.zero_add, Nat.add_zero, Bool.not_true, Bool.not_false]
    refine ld1_r r1' rfl ?_
    try simp only [e_fd, e_nck, e_pkt, e_pkf, e_gdtt, e_gdtf, e_gdft, e_gdff, e_ift, e_iff, e_not, e_ln, e_lnT, e_cp, e_cvi, e_ex20, e_ex21, e_ex30, e_ex31, e_ex32, e_add, e_sub, e_mul, e_quo, e_rem, e_and, e_or, e_xor, e_shl, e_shr, e_eql, e_neq, e_lss, e_leq, e_gtr, e_geq, e_beq, e_bne, e_peq1, e_peq2, e_pne1, e_pne2, e_zeq1, e_zeq2, e_zne1, e_zne2, e_feq1, e_fne1, e_feq2, e_fne2, e_seq, e_sne, e_ta1, e_ta2, Nat.zero_add, Nat.add_zero, Bool.not_true, Bool.not_false]
    refine ld1_r r1' rfl ?_
    try simp only [e_fd, e_nck, e_pkt, e_pkf, e_gdtt, e_gdtf, e_gdft, e_gdff, e_ift, e_iff, e_not, e_ln, e_lnT, e_cp, e_cvi, e_ex20, e_ex21, e_ex30, e_ex31, e_ex32, e_add, e_sub, e_mul, e_quo, e_rem, e_and, e_or, e_xor, e_shl, e_shr, e_eql, e_neq, e_lss, e_leq, e_gtr, e_geq, e_beq, e_bne, e_peq1, e_peq2, e_pne1, e_pne2, e_zeq1, e_zeq2, e_zne1, e_zne2, e_feq1, e_fne1, e_feq2, e_fne2, e_seq, e_sne, e_ta1, e_ta2, Nat.zero_add, Nat.add_zero, Bool.not_true, Bool.not_false]
    rw [w64 (show b < 18446744073709551616 by omega), w64 (show n < 18446744073709551616 by omega), show ((b : Nat) : Int) + ((n : Nat) : Int) = ((b + n : Nat) : Int) by omega, w64 (show b + n < 18446744073709551616 by omega)]
    refine size_ok h1 ?_
    try simp only [e_fd, e_nck, e_pkt, e_pkf, e_gdtt, e_gdtf, e_gdft, e_gdff, e_ift, e_iff, e_not, e_ln, e_lnT, e_cp, e_cvi, e_ex20, e_ex21, e_ex30, e_ex31, e_ex32, e_add, e_sub, e_mul, e_quo, e_rem, e_and, e_or, e_xor, e_shl, e_shr, e_eql, e_neq, e_lss, e_leq, e_gtr, e_geq, e_beq, e_bne, e_peq1, e_peq2, e_pne1, e_pne2, e_zeq1, e_zeq2, e_zne1, e_zne2, e_feq1, e_fne1, e_feq2, e_fne2, e_seq, e_sne, e_ta1, e_ta2, Nat.zero_add, Nat.add_zero, Bool.not_true, Bool.not_false]
    by_cases c1 : 4096 < b + n
    · have c1' : ((4096 : Nat) : Int) < ((b + n : Nat) : Int) := by omega
      simp only [c1', decide_true, e_fd, e_nck, e_pkt, e_pkf, e_gdtt, e_gdtf, e_gdft, e_gdff, e_ift, e_iff, e_not, e_ln, e_lnT, e_cp, e_cvi, e_ex20, e_ex21, e_ex30, e_ex31, e_ex32, e_add, e_sub, e_mul, e_quo, e_rem, e_and, e_or, e_xor, e_shl, e_shr, e_eql, e_neq, e_lss, e_leq, e_gtr, e_geq, e_beq, e_bne, e_peq1, e_peq2, e_pne1, e_pne2, e_zeq1, e_zeq2, e_zne1, e_zne2, e_feq1, e_fne1, e_feq2, e_fne2, e_seq, e_sne, e_ta1, e_ta2, Nat.zero_add, Nat.add_zero, Bool.not_true, Bool.not_false]
      rw [if_pos (.inr c1)] at hN
      exact hN (by decide) w1 hk1
    · have c1' : ¬ ((4096 : Nat) : Int) < ((b + n : Nat) : Int) := by omega
      have c2' : ¬ (4294967295 : Int) < ((b + n : Nat) : Int) := by omega
      simp only [c1', c2', decide_false, e_fd, e_nck, e_pkt, e_pkf, e_gdtt, e_gdtf, e_gdft, e_gdff, e_ift, e_iff, e_not, e_ln, e_lnT, e_cp, e_cvi, e_ex20, e_ex21, e_ex30, e_ex31, e_ex32, e_add, e_sub, e_mul, e_quo, e_rem, e_and, e_or, e_xor, e_shl, e_shr, e_eql, e_neq, e_lss, e_leq, e_gtr, e_geq, e_beq, e_bne, e_peq1, e_peq2, e_pne1, e_pne2, e_zeq1, e_zeq2, e_zne1, e_zne2, e_feq1, e_fne1, e_feq2, e_fne2, e_seq, e_sne, e_ta1, e_ta2, Nat.zero_add, Nat.add_zero, Bool.not_true, Bool.not_false]
      rw [if_neg (by omega)] at hS
      have hS := hS rfl
      unfold s29_p2 s29_p2_d
      try simp only [e_fd, e_nck, e_pkt, e_pkf, e_gdtt, e_gdtf, e_gdft, e_gdff, e_ift, e_iff, e_not, e_ln, e_lnT, e_cp, e_cvi, e_ex20, e_ex21, e_ex30, e_ex31, e_ex32, e_add, e_sub, e_mul, e_quo, e_rem, e_and, e_or, e_xor, e_shl, e_shr, e_eql, e_neq, e_lss, e_leq, e_gtr, e_geq, e_beq, e_bne, e_peq1, e_peq2, e_pne1, e_pne2, e_zeq1, e_zeq2, e_zne1, e_zne2, e_feq1, e_fne1, e_feq2, e_fne2, e_seq, e_sne, e_ta1, e_ta2, Nat.zero_add, Nat.add_zero, Bool.not_true, Bool.not_false]
      refine ldn_r r1'.drw (show 0 + 2 ≤ 2 by decide) ?_
      refine ld1_r r1'.drw rfl ?_
      try simp only [e_fd, e_nck, e_pkt, e_pkf, e_gdtt, e_gdtf, e_gdft, e_gdff, e_ift, e_iff, e_not, e_ln, e_lnT, e_cp, e_cvi, e_ex20, e_ex21, e_ex30, e_ex31, e_ex32, e_add, e_sub, e_mul, e_quo, e_rem, e_and, e_or, e_xor, e_shl, e_shr, e_eql, e_neq, e_lss, e_leq, e_gtr, e_geq, e_beq, e_bne, e_peq1, e_peq2, e_pne1, e_pne2, e_zeq1, e_zeq2, e_zne1, e_zne2, e_feq1, e_fne1, e_feq2, e_fne2, e_seq, e_sne, e_ta1, e_ta2, Nat.zero_add, Nat.add_zero, Bool.not_true, Bool.not_false]
      rw [w32 (show b + n < 4294967296 by omega)]
      refine ⟨⟨by decide, by decide, by decide, by decide⟩, ?_⟩
      have hk2 : Kp (fun _ => False) (drw w1) ((drw w1).alloc (.cells (zrep [(.int .u32 0), (.int .u32 0), (.int .u32 0), (.int .u32 0), (.int .u32 0), (.int .u32 0)] ((8 : Int).toNat * 6)).toArray 112)) := kp_alloc _
      have r2 := Row.new (drw w1) 112 (zrep [(.int .u32 0), (.int .u32 0), (.int .u32 0), (.int .u32 0), (.int .u32 0), (.int .u32 0)] ((8 : Int).toNat * 6))
      refine ⟨hk2.below', ?_⟩
      refine bdq_r rfl ?_
      refine nw_r fun w3 r3 hk3 hz3 => ?_
      unfold s29_p1
      have es : (drw w1).heap.size = w.heap.size + 1 := hz1
      have sz2 := hk2.size
      refine hS w3 _ (drw w1).heap.size (Nat.le_trans (show w.heap.size ≤ (drw w1).heap.size by omega) hk2.size) (by omega) (((hk1.trans kp_drw).trans hk2).trans hk3) ⟨r3, zrep [(.int .u32 0), (.int .u32 0), (.int .u32 0), (.int .u32 0), (.int .u32 0), (.int .u32 0)] (8 * 6), by simp [zrep, openT], ?_⟩
      have := hk3.row' r2
      simpa [openT, rows] using this
end
end Go.Proofs.Qxb6500893aDoor
