import Derived.Test.Qxb6500893aDoorA3
namespace Go.Proofs.Qxb6500893aDoor
open Go.Sh Go.RowKit
set_option linter.unusedVariables false
set_option linter.unusedSimpArgs false

theorem e_andNot {q : IntKind} {m n : Int} {K : Value → World → Prop} {w : World} : boI .andNot (.int q m) (.int q n) K w = K (.int q (q.wrap (BitVec.ofInt q.bits m &&& ~~~BitVec.ofInt q.bits n).toNat)) w := by simp [boI]
def clr (a b : Nat) : Nat := (BitVec.ofInt IntKind.u64.bits (a : Int) &&& ~~~BitVec.ofInt IntKind.u64.bits (b : Int)).toNat
theorem clr_lt (a b : Nat) : clr a b < 18446744073709551616 := by
  unfold clr
  exact (BitVec.ofInt IntKind.u64.bits (a : Int) &&& ~~~BitVec.ofInt IntKind.u64.bits (b : Int)).isLt

def freeF (A : Ar) (s : Shp) (a : Nat) : Int × Ar :=
  if idxC s a ≠ 0 then (idxC s a, ld A)
  else if A.ws s.ctl ≠ sealN s then (11, ld (ld A))
  else if A.ws (s.mc (idxI s a)) &&& bitN (idxI s a) = 0 then (10, ld (ld (ld (ld (ld A)))))
  else if s.n < A.ws (s.ctl + 1) ∨ A.ws (s.ctl + 2) = 0 ∨ s.n < A.ws (s.ctl + 2) then (11, ld (ld (ld (ld (ld A)))))
  else (0, put (put (put (put (ld (ld (ld (ld (ld A))))) a (A.ws (s.ctl + 1))) (s.ctl + 1) (idxI s a + 1)) (s.mc (idxI s a)) (clr (A.ws (s.mc (idxI s a))) (bitN (idxI s a)))) (s.ctl + 2) (A.ws (s.ctl + 2) - 1))

section
variable {w w' : World} {ab tb pb p sb so : Nat} {M M' : Am} {A : Ar} {K : Value → World → Prop} {C : Nat → Prop} {s : Shp} {T : Tb}
theorem idx_lt (hok : s.Ok) {a : Nat} (h : idxC s a = 0) : idxI s a < s.n ∧ a = s.bk (idxI s a) := by
  unfold idxI
  rw [if_pos h]
  unfold idxC at h
  by_cases h1 : a < s.fst ∨ s.fin ≤ a
  · rw [if_pos h1] at h; cases h
  · rw [if_neg h1] at h
    by_cases h2 : (a - s.fst) % s.bw ≠ 0
    · rw [if_pos h2] at h; cases h
    · have h2' : (a - s.fst) % s.bw = 0 := by omega
      have hf := hok.fin
      have hb := hok.bw1
      have hd := Nat.div_add_mod (a - s.fst) s.bw
      rw [h2', Nat.add_zero] at hd
      unfold Shp.bk
      refine ⟨?_, by rw [Nat.mul_comm] at hd; omega⟩
      rw [Nat.div_lt_iff_lt_mul (by omega)]
      omega

theorem free_ok {id : Int} {a : Nat} (ha : Arn w ab M A) (ht : Tbl w tb pb ab T) (ok : T.Ok) (hs : A.sd.length ≤ 900000) (haN : a < 4294967296)
    (hN : ¬ (0 ≤ id ∧ id < T.ps.length) → K (I 6) w)
    (hS : ∀ i (hi : i < T.ps.length), id = (i : Int) → ∀ w' M', Arn w' ab M' (freeF A T.ps[i] a).2 → StA w w' ab M M' → K (I (freeF A T.ps[i] a).1) w') : cl Tryd.prog 34 #[P tb 0, I id, U32 a] K w := by
  apply c34
  unfold s34_p1
  refine shapeOf_ok ht (fun hn => ?_) (fun i hi hid hsh => ?_)
  · simp only [e_fd, e_nck, e_pkt, e_pkf, e_gdtt, e_gdtf, e_gdft, e_gdff, e_ift, e_iff, e_not, e_ln, e_lnT, e_cp, e_cvi, e_ex20, e_ex21, e_ex30, e_ex31, e_ex32, e_add, e_sub, e_mul, e_quo, e_rem, e_and, e_or, e_xor, e_shl, e_shr, e_eql, e_neq, e_lss, e_leq, e_gtr, e_geq, e_beq, e_bne, e_peq1, e_peq2, e_pne1, e_pne2, e_zeq1, e_zeq2, e_zne1, e_zne2, e_feq1, e_fne1, e_feq2, e_fne2, e_seq, e_sne, e_ta1, e_ta2, Nat.zero_add, Nat.add_zero, Bool.not_true, Bool.not_false]
    exact hN hn
  · have hS := hS i hi hid
    obtain ⟨hok, _, _⟩ := ok.sh _ (List.getElem_mem hi)
    generalize T.ps[i] = s at *
    have hc := hok.ctl_lt
    have hlim := hok.lim
    have hn2 := hok.n2
    have hb1 := hok.bw1
    have hb2 := hok.bw2
    have hfst := hok.fst
    have hfin := hok.fin
    have hbm := hok.bm
    have rg := ha.rng
    simp only [bne_self_eq_false, e_fd, e_nck, e_pkt, e_pkf, e_gdtt, e_gdtf, e_gdft, e_gdff, e_ift, e_iff, e_not, e_ln, e_lnT, e_cp, e_cvi, e_ex20, e_ex21, e_ex30, e_ex31, e_ex32, e_add, e_sub, e_mul, e_quo, e_rem, e_and, e_or, e_xor, e_shl, e_shr, e_eql, e_neq, e_lss, e_leq, e_gtr, e_geq, e_beq, e_bne, e_peq1, e_peq2, e_pne1, e_pne2, e_zeq1, e_zeq2, e_zne1, e_zne2, e_feq1, e_fne1, e_feq2, e_fne2, e_seq, e_sne, e_ta1, e_ta2, Nat.zero_add, Nat.add_zero, Bool.not_true, Bool.not_false]
    refine ld1_r ht.row rfl ?_
    refine charge_ok (n := 1) ha fun w1 h1 hk1 => ?_
    have st1 : StA w w1 ab M M := stA_ab hk1
    have ht1 := ht.stA ha st1
    have hsh1 := hsh.kp st1.kp (fun b l hr => ha.ntag hr (by decide) (by decide) (by decide))
    refine indexOf_ok hsh1 haN (by omega) hb1 (by omega) ?_
    try simp only [e_fd, e_nck, e_pkt, e_pkf, e_gdtt, e_gdtf, e_gdft, e_gdff, e_ift, e_iff, e_not, e_ln, e_lnT, e_cp, e_cvi, e_ex20, e_ex21, e_ex30, e_ex31, e_ex32, e_add, e_sub, e_mul, e_quo, e_rem, e_and, e_or, e_xor, e_shl, e_shr, e_eql, e_neq, e_lss, e_leq, e_gtr, e_geq, e_beq, e_bne, e_peq1, e_peq2, e_pne1, e_pne2, e_zeq1, e_zeq2, e_zne1, e_zne2, e_feq1, e_fne1, e_feq2, e_fne2, e_seq, e_sne, e_ta1, e_ta2, Nat.zero_add, Nat.add_zero, Bool.not_true, Bool.not_false]
    unfold freeF at hS
    by_cases hx : idxC s a = 0
    · have e : (idxC s a != 0) = false := by simpa using hx
      simp only [e, e_fd, e_nck, e_pkt, e_pkf, e_gdtt, e_gdtf, e_gdft, e_gdff, e_ift, e_iff, e_not, e_ln, e_lnT, e_cp, e_cvi, e_ex20, e_ex21, e_ex30, e_ex31, e_ex32, e_add, e_sub, e_mul, e_quo, e_rem, e_and, e_or, e_xor, e_shl, e_shr, e_eql, e_neq, e_lss, e_leq, e_gtr, e_geq, e_beq, e_bne, e_peq1, e_peq2, e_pne1, e_pne2, e_zeq1, e_zeq2, e_zne1, e_zne2, e_feq1, e_fne1, e_feq2, e_fne2, e_seq, e_sne, e_ta1, e_ta2, Nat.zero_add, Nat.add_zero, Bool.not_true, Bool.not_false]
      rw [if_neg (show ¬ idxC s a ≠ 0 by simpa using hx)] at hS
      obtain ⟨hxn, hxa⟩ := idx_lt hok hx
      obtain ⟨x, hxx⟩ : ∃ x, idxI s a = x := ⟨_, rfl⟩
      rw [hxx] at hS hxn hxa ⊢
      have hbk := hok.bk_lt hxn
      have hmc := hok.mc_lt hxn
      refine ld1_r ht1.row rfl ?_
      refine newPort h1 fun w2 h2 hk2 => ?_
      have hsh2 := hsh1.kp' hk2
      have fin : ∀ {w' M'}, StP w2 w' ab w1.heap.size M M' → StA w w' ab M M' := fun st => st1.trans (st.toA hk2 (Nat.le_refl _))
      refine sealed_ok h2 hsh2 (by omega) fun w3 h3 st3 => ?_
      have hsh3 := h2.sh st3 hsh2
      by_cases e0 : A.ws s.ctl = sealN s
      · have e : (A.ws s.ctl == sealN s) = true := by simpa using e0
        simp only [e, e_fd, e_nck, e_pkt, e_pkf, e_gdtt, e_gdtf, e_gdft, e_gdff, e_ift, e_iff, e_not, e_ln, e_lnT, e_cp, e_cvi, e_ex20, e_ex21, e_ex30, e_ex31, e_ex32, e_add, e_sub, e_mul, e_quo, e_rem, e_and, e_or, e_xor, e_shl, e_shr, e_eql, e_neq, e_lss, e_leq, e_gtr, e_geq, e_beq, e_bne, e_peq1, e_peq2, e_pne1, e_pne2, e_zeq1, e_zeq2, e_zne1, e_zne2, e_feq1, e_fne1, e_feq2, e_fne2, e_seq, e_sne, e_ta1, e_ta2, Nat.zero_add, Nat.add_zero, Bool.not_true, Bool.not_false]
        rw [if_neg (show ¬ A.ws s.ctl ≠ sealN s by simpa using e0)] at hS
        refine mapCell_ok hsh3 (by omega) (by omega) ?_
        try simp only [e_fd, e_nck, e_pkt, e_pkf, e_gdtt, e_gdtf, e_gdft, e_gdff, e_ift, e_iff, e_not, e_ln, e_lnT, e_cp, e_cvi, e_ex20, e_ex21, e_ex30, e_ex31, e_ex32, e_add, e_sub, e_mul, e_quo, e_rem, e_and, e_or, e_xor, e_shl, e_shr, e_eql, e_neq, e_lss, e_leq, e_gtr, e_geq, e_beq, e_bne, e_peq1, e_peq2, e_pne1, e_pne2, e_zeq1, e_zeq2, e_zne1, e_zne2, e_feq1, e_fne1, e_feq2, e_fne2, e_seq, e_sne, e_ta1, e_ta2, Nat.zero_add, Nat.add_zero, Bool.not_true, Bool.not_false]
        refine pload_ok h3 (by omega) fun w4 h4 st4 => ?_
        have hsh4 := h3.sh st4 hsh3
        refine hsh4.ld (k := 0) (by decide) rfl rfl ?_
        try simp only [e_fd, e_nck, e_pkt, e_pkf, e_gdtt, e_gdtf, e_gdft, e_gdff, e_ift, e_iff, e_not, e_ln, e_lnT, e_cp, e_cvi, e_ex20, e_ex21, e_ex30, e_ex31, e_ex32, e_add, e_sub, e_mul, e_quo, e_rem, e_and, e_or, e_xor, e_shl, e_shr, e_eql, e_neq, e_lss, e_leq, e_gtr, e_geq, e_beq, e_bne, e_peq1, e_peq2, e_pne1, e_pne2, e_zeq1, e_zeq2, e_zne1, e_zne2, e_feq1, e_fne1, e_feq2, e_fne2, e_seq, e_sne, e_ta1, e_ta2, Nat.zero_add, Nat.add_zero, Bool.not_true, Bool.not_false]
        rw [ctlA (z := 1) (k := 1) rfl hok (by decide)]
        refine pload_ok h4 (by omega) fun w5 h5 st5 => ?_
        have hsh5 := h4.sh st5 hsh4
        refine hsh5.ld (k := 0) (by decide) rfl rfl ?_
        try simp only [e_fd, e_nck, e_pkt, e_pkf, e_gdtt, e_gdtf, e_gdft, e_gdff, e_ift, e_iff, e_not, e_ln, e_lnT, e_cp, e_cvi, e_ex20, e_ex21, e_ex30, e_ex31, e_ex32, e_add, e_sub, e_mul, e_quo, e_rem, e_and, e_or, e_xor, e_shl, e_shr, e_eql, e_neq, e_lss, e_leq, e_gtr, e_geq, e_beq, e_bne, e_peq1, e_peq2, e_pne1, e_pne2, e_zeq1, e_zeq2, e_zne1, e_zne2, e_feq1, e_fne1, e_feq2, e_fne2, e_seq, e_sne, e_ta1, e_ta2, Nat.zero_add, Nat.add_zero, Bool.not_true, Bool.not_false]
        rw [ctlA (z := 2) (k := 2) rfl hok (by decide)]
        refine pload_ok h5 (by omega) fun w6 h6 st6 => ?_
        have hsh6 := h5.sh st6 hsh5
        have st26 := ((st3.trans st4).trans st5).trans st6
        try simp only [e_fd, e_nck, e_pkt, e_pkf, e_gdtt, e_gdtf, e_gdft, e_gdff, e_ift, e_iff, e_not, e_ln, e_lnT, e_cp, e_cvi, e_ex20, e_ex21, e_ex30, e_ex31, e_ex32, e_add, e_sub, e_mul, e_quo, e_rem, e_and, e_or, e_xor, e_shl, e_shr, e_eql, e_neq, e_lss, e_leq, e_gtr, e_geq, e_beq, e_bne, e_peq1, e_peq2, e_pne1, e_pne2, e_zeq1, e_zeq2, e_zne1, e_zne2, e_feq1, e_fne1, e_feq2, e_fne2, e_seq, e_sne, e_ta1, e_ta2, Nat.zero_add, Nat.add_zero, Bool.not_true, Bool.not_false]
        refine ld1_r h6.port rfl ?_
        simp only [bne_self_eq_false, e_fd, e_nck, e_pkt, e_pkf, e_gdtt, e_gdtf, e_gdft, e_gdff, e_ift, e_iff, e_not, e_ln, e_lnT, e_cp, e_cvi, e_ex20, e_ex21, e_ex30, e_ex31, e_ex32, e_add, e_sub, e_mul, e_quo, e_rem, e_and, e_or, e_xor, e_shl, e_shr, e_eql, e_neq, e_lss, e_leq, e_gtr, e_geq, e_beq, e_bne, e_peq1, e_peq2, e_pne1, e_pne2, e_zeq1, e_zeq2, e_zne1, e_zne2, e_feq1, e_fne1, e_feq2, e_fne2, e_seq, e_sne, e_ta1, e_ta2, Nat.zero_add, Nat.add_zero, Bool.not_true, Bool.not_false]
        have b1 := rg (s.mc x) (by omega)
        have b2 := rg (s.ctl + 1) (by omega)
        have b3 := rg (s.ctl + 2) (by omega)
        have bb := bitN_lt x
        rw [and64 b1 bb]
        by_cases q1 : A.ws (s.mc x) &&& bitN x = 0
        · have e1 : (((A.ws (s.mc x) &&& bitN x : Nat) : Int) == 0) = true := by rw [q1]; rfl
          simp only [e1, e_fd, e_nck, e_pkt, e_pkf, e_gdtt, e_gdtf, e_gdft, e_gdff, e_ift, e_iff, e_not, e_ln, e_lnT, e_cp, e_cvi, e_ex20, e_ex21, e_ex30, e_ex31, e_ex32, e_add, e_sub, e_mul, e_quo, e_rem, e_and, e_or, e_xor, e_shl, e_shr, e_eql, e_neq, e_lss, e_leq, e_gtr, e_geq, e_beq, e_bne, e_peq1, e_peq2, e_pne1, e_pne2, e_zeq1, e_zeq2, e_zne1, e_zne2, e_feq1, e_fne1, e_feq2, e_fne2, e_seq, e_sne, e_ta1, e_ta2, Nat.zero_add, Nat.add_zero, Bool.not_true, Bool.not_false]
          rw [if_pos q1] at hS
          exact hS w6 M h6.arn (fin st26)
        · have e1 : (((A.ws (s.mc x) &&& bitN x : Nat) : Int) == 0) = false := by rw [beq_eq_false_iff_ne]; omega
          simp only [e1, e_fd, e_nck, e_pkt, e_pkf, e_gdtt, e_gdtf, e_gdft, e_gdff, e_ift, e_iff, e_not, e_ln, e_lnT, e_cp, e_cvi, e_ex20, e_ex21, e_ex30, e_ex31, e_ex32, e_add, e_sub, e_mul, e_quo, e_rem, e_and, e_or, e_xor, e_shl, e_shr, e_eql, e_neq, e_lss, e_leq, e_gtr, e_geq, e_beq, e_bne, e_peq1, e_peq2, e_pne1, e_pne2, e_zeq1, e_zeq2, e_zne1, e_zne2, e_feq1, e_fne1, e_feq2, e_fne2, e_seq, e_sne, e_ta1, e_ta2, Nat.zero_add, Nat.add_zero, Bool.not_true, Bool.not_false]
          rw [if_neg q1] at hS
          refine hsh6.ld (k := 5) (by decide) rfl rfl ?_
          try simp only [e_fd, e_nck, e_pkt, e_pkf, e_gdtt, e_gdtf, e_gdft, e_gdff, e_ift, e_iff, e_not, e_ln, e_lnT, e_cp, e_cvi, e_ex20, e_ex21, e_ex30, e_ex31, e_ex32, e_add, e_sub, e_mul, e_quo, e_rem, e_and, e_or, e_xor, e_shl, e_shr, e_eql, e_neq, e_lss, e_leq, e_gtr, e_geq, e_beq, e_bne, e_peq1, e_peq2, e_pne1, e_pne2, e_zeq1, e_zeq2, e_zne1, e_zne2, e_feq1, e_fne1, e_feq2, e_fne2, e_seq, e_sne, e_ta1, e_ta2, Nat.zero_add, Nat.add_zero, Bool.not_true, Bool.not_false]
          rw [w64 (show s.n < 18446744073709551616 by omega)]
          have bad : (s.n < A.ws (s.ctl + 1) ∨ A.ws (s.ctl + 2) = 0 ∨ s.n < A.ws (s.ctl + 2)) → K (I 11) w6 := by
            intro q
            rw [if_pos q] at hS
            exact hS w6 M h6.arn (fin st26)
          by_cases q2 : s.n < A.ws (s.ctl + 1)
          · have q2' : ((s.n : Nat) : Int) < ((A.ws (s.ctl + 1) : Nat) : Int) := by omega
            simp only [q2', decide_true, e_fd, e_nck, e_pkt, e_pkf, e_gdtt, e_gdtf, e_gdft, e_gdff, e_ift, e_iff, e_not, e_ln, e_lnT, e_cp, e_cvi, e_ex20, e_ex21, e_ex30, e_ex31, e_ex32, e_add, e_sub, e_mul, e_quo, e_rem, e_and, e_or, e_xor, e_shl, e_shr, e_eql, e_neq, e_lss, e_leq, e_gtr, e_geq, e_beq, e_bne, e_peq1, e_peq2, e_pne1, e_pne2, e_zeq1, e_zeq2, e_zne1, e_zne2, e_feq1, e_fne1, e_feq2, e_fne2, e_seq, e_sne, e_ta1, e_ta2, Nat.zero_add, Nat.add_zero, Bool.not_true, Bool.not_false]
            exact bad (.inl q2)
          · have q2' : ¬ ((s.n : Nat) : Int) < ((A.ws (s.ctl + 1) : Nat) : Int) := by omega
            simp only [q2', decide_false, e_fd, e_nck, e_pkt, e_pkf, e_gdtt, e_gdtf, e_gdft, e_gdff, e_ift, e_iff, e_not, e_ln, e_lnT, e_cp, e_cvi, e_ex20, e_ex21, e_ex30, e_ex31, e_ex32, e_add, e_sub, e_mul, e_quo, e_rem, e_and, e_or, e_xor, e_shl, e_shr, e_eql, e_neq, e_lss, e_leq, e_gtr, e_geq, e_beq, e_bne, e_peq1, e_peq2, e_pne1, e_pne2, e_zeq1, e_zeq2, e_zne1, e_zne2, e_feq1, e_fne1, e_feq2, e_fne2, e_seq, e_sne, e_ta1, e_ta2, Nat.zero_add, Nat.add_zero, Bool.not_true, Bool.not_false]
            by_cases q3 : A.ws (s.ctl + 2) = 0
            · have q3' : (((A.ws (s.ctl + 2) : Nat) : Int) == 0) = true := by rw [q3]; rfl
              simp only [q3', e_fd, e_nck, e_pkt, e_pkf, e_gdtt, e_gdtf, e_gdft, e_gdff, e_ift, e_iff, e_not, e_ln, e_lnT, e_cp, e_cvi, e_ex20, e_ex21, e_ex30, e_ex31, e_ex32, e_add, e_sub, e_mul, e_quo, e_rem, e_and, e_or, e_xor, e_shl, e_shr, e_eql, e_neq, e_lss, e_leq, e_gtr, e_geq, e_beq, e_bne, e_peq1, e_peq2, e_pne1, e_pne2, e_zeq1, e_zeq2, e_zne1, e_zne2, e_feq1, e_fne1, e_feq2, e_fne2, e_seq, e_sne, e_ta1, e_ta2, Nat.zero_add, Nat.add_zero, Bool.not_true, Bool.not_false]
              exact bad (.inr (.inl q3))
            · have q3' : (((A.ws (s.ctl + 2) : Nat) : Int) == 0) = false := by rw [beq_eq_false_iff_ne]; omega
              simp only [q3', e_fd, e_nck, e_pkt, e_pkf, e_gdtt, e_gdtf, e_gdft, e_gdff, e_ift, e_iff, e_not, e_ln, e_lnT, e_cp, e_cvi, e_ex20, e_ex21, e_ex30, e_ex31, e_ex32, e_add, e_sub, e_mul, e_quo, e_rem, e_and, e_or, e_xor, e_shl, e_shr, e_eql, e_neq, e_lss, e_leq, e_gtr, e_geq, e_beq, e_bne, e_peq1, e_peq2, e_pne1, e_pne2, e_zeq1, e_zeq2, e_zne1, e_zne2, e_feq1, e_fne1, e_feq2, e_fne2, e_seq, e_sne, e_ta1, e_ta2, Nat.zero_add, Nat.add_zero, Bool.not_true, Bool.not_false]
              by_cases q4 : s.n < A.ws (s.ctl + 2)
              · have q4' : ((s.n : Nat) : Int) < ((A.ws (s.ctl + 2) : Nat) : Int) := by omega
                simp only [q4', decide_true, e_fd, e_nck, e_pkt, e_pkf, e_gdtt, e_gdtf, e_gdft, e_gdff, e_ift, e_iff, e_not, e_ln, e_lnT, e_cp, e_cvi, e_ex20, e_ex21, e_ex30, e_ex31, e_ex32, e_add, e_sub, e_mul, e_quo, e_rem, e_and, e_or, e_xor, e_shl, e_shr, e_eql, e_neq, e_lss, e_leq, e_gtr, e_geq, e_beq, e_bne, e_peq1, e_peq2, e_pne1, e_pne2, e_zeq1, e_zeq2, e_zne1, e_zne2, e_feq1, e_fne1, e_feq2, e_fne2, e_seq, e_sne, e_ta1, e_ta2, Nat.zero_add, Nat.add_zero, Bool.not_true, Bool.not_false]
                exact bad (.inr (.inr q4))
              · have q4' : ¬ ((s.n : Nat) : Int) < ((A.ws (s.ctl + 2) : Nat) : Int) := by omega
                simp only [q4', decide_false, e_fd, e_nck, e_pkt, e_pkf, e_gdtt, e_gdtf, e_gdft, e_gdff, e_ift, e_iff, e_not, e_ln, e_lnT, e_cp, e_cvi, e_ex20, e_ex21, e_ex30, e_ex31, e_ex32, e_add, e_sub, e_mul, e_quo, e_rem, e_and, e_or, e_xor, e_shl, e_shr, e_eql, e_neq, e_lss, e_leq, e_gtr, e_geq, e_beq, e_bne, e_peq1, e_peq2, e_pne1, e_pne2, e_zeq1, e_zeq2, e_zne1, e_zne2, e_feq1, e_fne1, e_feq2, e_fne2, e_seq, e_sne, e_ta1, e_ta2, Nat.zero_add, Nat.add_zero, Bool.not_true, Bool.not_false]
                rw [if_neg (by omega)] at hS
                refine pstore_ok h6 (by omega) b2 (by show A.sd.length ≤ _; omega) fun w7 M7 h7 st7 => ?_
                have hsh7 := h6.sh st7 hsh6
                refine hsh7.ld (k := 0) (by decide) rfl rfl ?_
                try simp only [e_fd, e_nck, e_pkt, e_pkf, e_gdtt, e_gdtf, e_gdft, e_gdff, e_ift, e_iff, e_not, e_ln, e_lnT, e_cp, e_cvi, e_ex20, e_ex21, e_ex30, e_ex31, e_ex32, e_add, e_sub, e_mul, e_quo, e_rem, e_and, e_or, e_xor, e_shl, e_shr, e_eql, e_neq, e_lss, e_leq, e_gtr, e_geq, e_beq, e_bne, e_peq1, e_peq2, e_pne1, e_pne2, e_zeq1, e_zeq2, e_zne1, e_zne2, e_feq1, e_fne1, e_feq2, e_fne2, e_seq, e_sne, e_ta1, e_ta2, Nat.zero_add, Nat.add_zero, Bool.not_true, Bool.not_false]
                rw [ctlA (z := 1) (k := 1) rfl hok (by decide), w64 (show x < 18446744073709551616 by omega), show (((x : Nat) : Int) + 1) = ((x + 1 : Nat) : Int) by omega, w64 (by omega)]
                refine pstore_ok h7 (by omega) (by omega) (by show (A.sd ++ [_]).length ≤ _; simp; omega) fun w8 M8 h8 st8 => ?_
                have hsh8 := h7.sh st8 hsh7
                simp only [e_andNot, e_fd, e_nck, e_pkt, e_pkf, e_gdtt, e_gdtf, e_gdft, e_gdff, e_ift, e_iff, e_not, e_ln, e_lnT, e_cp, e_cvi, e_ex20, e_ex21, e_ex30, e_ex31, e_ex32, e_add, e_sub, e_mul, e_quo, e_rem, e_and, e_or, e_xor, e_shl, e_shr, e_eql, e_neq, e_lss, e_leq, e_gtr, e_geq, e_beq, e_bne, e_peq1, e_peq2, e_pne1, e_pne2, e_zeq1, e_zeq2, e_zne1, e_zne2, e_feq1, e_fne1, e_feq2, e_fne2, e_seq, e_sne, e_ta1, e_ta2, Nat.zero_add, Nat.add_zero, Bool.not_true, Bool.not_false]
                have ec : IntKind.u64.wrap (((BitVec.ofInt IntKind.u64.bits ((A.ws (s.mc x) : Nat) : Int) &&& ~~~BitVec.ofInt IntKind.u64.bits ((bitN x : Nat) : Int)).toNat : Nat) : Int) = ((clr (A.ws (s.mc x)) (bitN x) : Nat) : Int) := w64 (clr_lt _ _)
                rw [ec]
                refine pstore_ok h8 (by omega) (clr_lt _ _) (by show ((A.sd ++ [_]) ++ [_]).length ≤ _; simp; omega) fun w9 M9 h9 st9 => ?_
                have hsh9 := h8.sh st9 hsh8
                refine hsh9.ld (k := 0) (by decide) rfl rfl ?_
                try simp only [e_fd, e_nck, e_pkt, e_pkf, e_gdtt, e_gdtf, e_gdft, e_gdff, e_ift, e_iff, e_not, e_ln, e_lnT, e_cp, e_cvi, e_ex20, e_ex21, e_ex30, e_ex31, e_ex32, e_add, e_sub, e_mul, e_quo, e_rem, e_and, e_or, e_xor, e_shl, e_shr, e_eql, e_neq, e_lss, e_leq, e_gtr, e_geq, e_beq, e_bne, e_peq1, e_peq2, e_pne1, e_pne2, e_zeq1, e_zeq2, e_zne1, e_zne2, e_feq1, e_fne1, e_feq2, e_fne2, e_seq, e_sne, e_ta1, e_ta2, Nat.zero_add, Nat.add_zero, Bool.not_true, Bool.not_false]
                rw [ctlA (z := 2) (k := 2) rfl hok (by decide), show (((A.ws (s.ctl + 2) : Nat) : Int) - 1) = ((A.ws (s.ctl + 2) - 1 : Nat) : Int) by omega, w64 (by omega)]
                refine pstore_ok h9 (by omega) (by omega) (by show (((A.sd ++ [_]) ++ [_]) ++ [_]).length ≤ _; simp; omega) fun w10 M10 h10 st10 => ?_
                try simp only [e_fd, e_nck, e_pkt, e_pkf, e_gdtt, e_gdtf, e_gdft, e_gdff, e_ift, e_iff, e_not, e_ln, e_lnT, e_cp, e_cvi, e_ex20, e_ex21, e_ex30, e_ex31, e_ex32, e_add, e_sub, e_mul, e_quo, e_rem, e_and, e_or, e_xor, e_shl, e_shr, e_eql, e_neq, e_lss, e_leq, e_gtr, e_geq, e_beq, e_bne, e_peq1, e_peq2, e_pne1, e_pne2, e_zeq1, e_zeq2, e_zne1, e_zne2, e_feq1, e_fne1, e_feq2, e_fne2, e_seq, e_sne, e_ta1, e_ta2, Nat.zero_add, Nat.add_zero, Bool.not_true, Bool.not_false]
                refine ld1_r h10.port rfl ?_
                exact hS w10 M10 h10.arn (fin ((((st26.trans st7).trans st8).trans st9).trans st10))
      · have e : (A.ws s.ctl == sealN s) = false := by simpa using e0
        simp only [e, e_fd, e_nck, e_pkt, e_pkf, e_gdtt, e_gdtf, e_gdft, e_gdff, e_ift, e_iff, e_not, e_ln, e_lnT, e_cp, e_cvi, e_ex20, e_ex21, e_ex30, e_ex31, e_ex32, e_add, e_sub, e_mul, e_quo, e_rem, e_and, e_or, e_xor, e_shl, e_shr, e_eql, e_neq, e_lss, e_leq, e_gtr, e_geq, e_beq, e_bne, e_peq1, e_peq2, e_pne1, e_pne2, e_zeq1, e_zeq2, e_zne1, e_zne2, e_feq1, e_fne1, e_feq2, e_fne2, e_seq, e_sne, e_ta1, e_ta2, Nat.zero_add, Nat.add_zero, Bool.not_true, Bool.not_false]
        rw [if_pos e0] at hS
        refine por_ok h3 ?_
        exact hS w3 M h3.arn (fin st3)
    · have e : (idxC s a != 0) = true := by simpa using hx
      simp only [e, e_fd, e_nck, e_pkt, e_pkf, e_gdtt, e_gdtf, e_gdft, e_gdff, e_ift, e_iff, e_not, e_ln, e_lnT, e_cp, e_cvi, e_ex20, e_ex21, e_ex30, e_ex31, e_ex32, e_add, e_sub, e_mul, e_quo, e_rem, e_and, e_or, e_xor, e_shl, e_shr, e_eql, e_neq, e_lss, e_leq, e_gtr, e_geq, e_beq, e_bne, e_peq1, e_peq2, e_pne1, e_pne2, e_zeq1, e_zeq2, e_zne1, e_zne2, e_feq1, e_fne1, e_feq2, e_fne2, e_seq, e_sne, e_ta1, e_ta2, Nat.zero_add, Nat.add_zero, Bool.not_true, Bool.not_false]
      rw [if_pos hx] at hS
      exact hS w1 M h1 st1

def tk (A : Ar) (k : Nat) : Ar := { A with st := tick A.st k }
def inP (s : Shp) (a : Nat) : Prop := s.fst ≤ a ∧ a < s.fin
theorem owner_ok {a : Nat} (ha : Arn w ab M A) (ht : Tbl w tb pb ab T) (ok : T.Ok) (haN : a < 4294967296)
    (hN : ∀ w' k, k ≤ 4 → (∀ s ∈ T.ps, ¬ inP s a) → Arn w' ab M (tk A k) → StA w w' ab M M → K (.tuple #[I (-1), I 8]) w')
    (hS : ∀ w' k i (hi : i < T.ps.length), k ≤ 4 → inP T.ps[i] a → Arn w' ab M (tk A k) → StA w w' ab M M → K (.tuple #[I i, I 0]) w') : cl Tryd.prog 36 #[P tb 0, U32 a] K w := by
  have hlen := ok.len
  apply c36
  unfold s36_p5 s36_p4 s36_p4_d
  try simp only [e_fd, e_nck, e_pkt, e_pkf, e_gdtt, e_gdtf, e_gdft, e_gdff, e_ift, e_iff, e_not, e_ln, e_lnT, e_cp, e_cvi, e_ex20, e_ex21, e_ex30, e_ex31, e_ex32, e_add, e_sub, e_mul, e_quo, e_rem, e_and, e_or, e_xor, e_shl, e_shr, e_eql, e_neq, e_lss, e_leq, e_gtr, e_geq, e_beq, e_bne, e_peq1, e_peq2, e_pne1, e_pne2, e_zeq1, e_zeq2, e_zne1, e_zne2, e_feq1, e_fne1, e_feq2, e_fne2, e_seq, e_sne, e_ta1, e_ta2, Nat.zero_add, Nat.add_zero, Bool.not_true, Bool.not_false]
  have hkd : Kp (fun _ => False) w (drw w) := kp_drw
  have htd := ht.kp' hkd
  refine ld1_r htd.row rfl ?_
  try simp only [e_fd, e_nck, e_pkt, e_pkf, e_gdtt, e_gdtf, e_gdft, e_gdff, e_ift, e_iff, e_not, e_ln, e_lnT, e_cp, e_cvi, e_ex20, e_ex21, e_ex30, e_ex31, e_ex32, e_add, e_sub, e_mul, e_quo, e_rem, e_and, e_or, e_xor, e_shl, e_shr, e_eql, e_neq, e_lss, e_leq, e_gtr, e_geq, e_beq, e_bne, e_peq1, e_peq2, e_pne1, e_pne2, e_zeq1, e_zeq2, e_zne1, e_zne2, e_feq1, e_fne1, e_feq2, e_fne2, e_seq, e_sne, e_ta1, e_ta2, Nat.zero_add, Nat.add_zero, Bool.not_true, Bool.not_false]
  have srt : ∀ i j (hi : i < T.ps.length) (hj : j < T.ps.length), i < j → T.ps[i].fin ≤ T.ps[j].ctl := fun i j hi hj hij => List.pairwise_iff_getElem.1 ok.srt i j hi hj hij
  refine ⟨fun n l w' => ∃ lo hi k : Nat, n = hi - lo ∧ l = [P tb 0, U32 a, I lo, I hi] ∧ lo ≤ hi ∧ hi ≤ T.ps.length ∧ k ≤ 4 ∧ hi - lo < 2 ^ (4 - k) ∧ (∀ i (h : i < T.ps.length), i < lo → T.ps[i].fin ≤ a) ∧ (∀ i (h : i < T.ps.length), hi ≤ i → a < T.ps[i].fst) ∧ Arn w' ab M (tk A k) ∧ StA w w' ab M M ∧ Tbl w' tb pb ab T,
    T.ps.length, ⟨0, T.ps.length, 0, by omega, rfl, by omega, by omega, by omega, by show T.ps.length - 0 < 16; omega, fun i _ h => by omega, fun i h h' => by omega, ?_, StA.of0 hkd, htd⟩, ?_⟩
  · have : tk A 0 = A := by unfold tk; rw [tick_0 ha.st]
    rw [this]; exact ha.kp' hkd
  rintro n l w1 ⟨lo, hi, k, rfl, rfl, hle, hhi, hk4, hd, hlow, hup, h1, st1, t1⟩
  rw [s36_p3_Fe]
  unfold s36_p2
  try simp only [e_fd, e_nck, e_pkt, e_pkf, e_gdtt, e_gdtf, e_gdft, e_gdff, e_ift, e_iff, e_not, e_ln, e_lnT, e_cp, e_cvi, e_ex20, e_ex21, e_ex30, e_ex31, e_ex32, e_add, e_sub, e_mul, e_quo, e_rem, e_and, e_or, e_xor, e_shl, e_shr, e_eql, e_neq, e_lss, e_leq, e_gtr, e_geq, e_beq, e_bne, e_peq1, e_peq2, e_pne1, e_pne2, e_zeq1, e_zeq2, e_zne1, e_zne2, e_feq1, e_fne1, e_feq2, e_fne2, e_seq, e_sne, e_ta1, e_ta2, Nat.zero_add, Nat.add_zero, Bool.not_true, Bool.not_false]
  by_cases hlt : lo < hi
  · have hlt' : (lo : Int) < (hi : Int) := by omega
    simp only [hlt', decide_true, e_fd, e_nck, e_pkt, e_pkf, e_gdtt, e_gdtf, e_gdft, e_gdff, e_ift, e_iff, e_not, e_ln, e_lnT, e_cp, e_cvi, e_ex20, e_ex21, e_ex30, e_ex31, e_ex32, e_add, e_sub, e_mul, e_quo, e_rem, e_and, e_or, e_xor, e_shl, e_shr, e_eql, e_neq, e_lss, e_leq, e_gtr, e_geq, e_beq, e_bne, e_peq1, e_peq2, e_pne1, e_pne2, e_zeq1, e_zeq2, e_zne1, e_zne2, e_feq1, e_fne1, e_feq2, e_fne2, e_seq, e_sne, e_ta1, e_ta2, Nat.zero_add, Nat.add_zero, Bool.not_true, Bool.not_false]
    refine ld1_r t1.row rfl ?_
    refine charge_ok (n := 1) h1 fun w2 h2 hk2 => ?_
    have st2 : StA w1 w2 ab M M := stA_ab hk2
    have t2 := t1.stA h1 st2
    have h2' : Arn w2 ab M (tk A (k + 1)) := by
      have : tk A (k + 1) = { tk A k with st := tick (tk A k).st 1 } := by unfold tk; simp only [tick_add]
      rw [this]; exact h2
    try simp only [e_fd, e_nck, e_pkt, e_pkf, e_gdtt, e_gdtf, e_gdft, e_gdff, e_ift, e_iff, e_not, e_ln, e_lnT, e_cp, e_cvi, e_ex20, e_ex21, e_ex30, e_ex31, e_ex32, e_add, e_sub, e_mul, e_quo, e_rem, e_and, e_or, e_xor, e_shl, e_shr, e_eql, e_neq, e_lss, e_leq, e_gtr, e_geq, e_beq, e_bne, e_peq1, e_peq2, e_pne1, e_pne2, e_zeq1, e_zeq2, e_zne1, e_zne2, e_feq1, e_fne1, e_feq2, e_fne2, e_seq, e_sne, e_ta1, e_ta2, Nat.zero_add, Nat.add_zero, Bool.not_true, Bool.not_false]
    refine ⟨by decide, ?_⟩
    obtain ⟨m, hm⟩ : ∃ m, (lo + hi) / 2 = m := ⟨_, rfl⟩
    have em : (IntKind.i64.wrap ((lo : Int) + (hi : Int))).tdiv 2 = ((m : Nat) : Int) := by
      rw [wrap64_id (by omega) (by omega), Int.tdiv_eq_ediv_of_nonneg (by omega)]; omega
    rw [em, wrap64_id (by omega) (by omega)]
    refine ld1_r t2.row rfl ?_
    have hmn : m < T.ps.length := by omega
    refine ⟨⟨by omega, by omega⟩, ?_⟩
    rw [show ((m : Int)).toNat = m by omega, add_mk, Nat.zero_add]
    have hsh := t2.at' hmn
    have hk3 : k ≤ 3 := by
      rcases Nat.lt_or_ge k 4 with q | q
      · omega
      · have : k = 4 := by omega
        subst this
        simp at hd; omega
    have hpow : 2 ^ (4 - k) = 2 * 2 ^ (4 - (k + 1)) := by
      rw [show 4 - k = (4 - (k + 1)) + 1 by omega, Nat.pow_succ]; omega
    obtain ⟨hokm, _, _⟩ := ok.sh _ (List.getElem_mem hmn)
    try simp only [e_fd, e_nck, e_pkt, e_pkf, e_gdtt, e_gdtf, e_gdft, e_gdff, e_ift, e_iff, e_not, e_ln, e_lnT, e_cp, e_cvi, e_ex20, e_ex21, e_ex30, e_ex31, e_ex32, e_add, e_sub, e_mul, e_quo, e_rem, e_and, e_or, e_xor, e_shl, e_shr, e_eql, e_neq, e_lss, e_leq, e_gtr, e_geq, e_beq, e_bne, e_peq1, e_peq2, e_pne1, e_pne2, e_zeq1, e_zeq2, e_zne1, e_zne2, e_feq1, e_fne1, e_feq2, e_fne2, e_seq, e_sne, e_ta1, e_ta2, Nat.zero_add, Nat.add_zero, Bool.not_true, Bool.not_false]
    refine hsh.ld (k := 2) (by decide) rfl rfl ?_
    try simp only [e_fd, e_nck, e_pkt, e_pkf, e_gdtt, e_gdtf, e_gdft, e_gdff, e_ift, e_iff, e_not, e_ln, e_lnT, e_cp, e_cvi, e_ex20, e_ex21, e_ex30, e_ex31, e_ex32, e_add, e_sub, e_mul, e_quo, e_rem, e_and, e_or, e_xor, e_shl, e_shr, e_eql, e_neq, e_lss, e_leq, e_gtr, e_geq, e_beq, e_bne, e_peq1, e_peq2, e_pne1, e_pne2, e_zeq1, e_zeq2, e_zne1, e_zne2, e_feq1, e_fne1, e_feq2, e_fne2, e_seq, e_sne, e_ta1, e_ta2, Nat.zero_add, Nat.add_zero, Bool.not_true, Bool.not_false]
    by_cases c1 : (a : Int) < ((T.ps[m].fst : Nat) : Int)
    · simp only [c1, decide_true, e_fd, e_nck, e_pkt, e_pkf, e_gdtt, e_gdtf, e_gdft, e_gdff, e_ift, e_iff, e_not, e_ln, e_lnT, e_cp, e_cvi, e_ex20, e_ex21, e_ex30, e_ex31, e_ex32, e_add, e_sub, e_mul, e_quo, e_rem, e_and, e_or, e_xor, e_shl, e_shr, e_eql, e_neq, e_lss, e_leq, e_gtr, e_geq, e_beq, e_bne, e_peq1, e_peq2, e_pne1, e_pne2, e_zeq1, e_zeq2, e_zne1, e_zne2, e_feq1, e_fne1, e_feq2, e_fne2, e_seq, e_sne, e_ta1, e_ta2, Nat.zero_add, Nat.add_zero, Bool.not_true, Bool.not_false]
      refine ⟨m - lo, by omega, lo, m, k + 1, rfl, rfl, by omega, by omega, by omega, by omega, hlow, fun i hi' hmi => ?_, h2', st1.trans st2, t2⟩
      by_cases e : i = m
      · subst e; omega
      · obtain ⟨hoki, _, _⟩ := ok.sh _ (List.getElem_mem hi')
        have := srt m i hmn hi' (by omega)
        have := hoki.bm
        have := hoki.fst
        have := hokm.fin
        have := hokm.ctl_lt
        omega
    · simp only [c1, decide_false, e_fd, e_nck, e_pkt, e_pkf, e_gdtt, e_gdtf, e_gdft, e_gdff, e_ift, e_iff, e_not, e_ln, e_lnT, e_cp, e_cvi, e_ex20, e_ex21, e_ex30, e_ex31, e_ex32, e_add, e_sub, e_mul, e_quo, e_rem, e_and, e_or, e_xor, e_shl, e_shr, e_eql, e_neq, e_lss, e_leq, e_gtr, e_geq, e_beq, e_bne, e_peq1, e_peq2, e_pne1, e_pne2, e_zeq1, e_zeq2, e_zne1, e_zne2, e_feq1, e_fne1, e_feq2, e_fne2, e_seq, e_sne, e_ta1, e_ta2, Nat.zero_add, Nat.add_zero, Bool.not_true, Bool.not_false]
      refine hsh.ld (k := 3) (by decide) rfl rfl ?_
      try simp only [e_fd, e_nck, e_pkt, e_pkf, e_gdtt, e_gdtf, e_gdft, e_gdff, e_ift, e_iff, e_not, e_ln, e_lnT, e_cp, e_cvi, e_ex20, e_ex21, e_ex30, e_ex31, e_ex32, e_add, e_sub, e_mul, e_quo, e_rem, e_and, e_or, e_xor, e_shl, e_shr, e_eql, e_neq, e_lss, e_leq, e_gtr, e_geq, e_beq, e_bne, e_peq1, e_peq2, e_pne1, e_pne2, e_zeq1, e_zeq2, e_zne1, e_zne2, e_feq1, e_fne1, e_feq2, e_fne2, e_seq, e_sne, e_ta1, e_ta2, Nat.zero_add, Nat.add_zero, Bool.not_true, Bool.not_false]
      by_cases c2 : ((T.ps[m].fin : Nat) : Int) ≤ (a : Int)
      · simp only [c2, decide_true, e_fd, e_nck, e_pkt, e_pkf, e_gdtt, e_gdtf, e_gdft, e_gdff, e_ift, e_iff, e_not, e_ln, e_lnT, e_cp, e_cvi, e_ex20, e_ex21, e_ex30, e_ex31, e_ex32, e_add, e_sub, e_mul, e_quo, e_rem, e_and, e_or, e_xor, e_shl, e_shr, e_eql, e_neq, e_lss, e_leq, e_gtr, e_geq, e_beq, e_bne, e_peq1, e_peq2, e_pne1, e_pne2, e_zeq1, e_zeq2, e_zne1, e_zne2, e_feq1, e_fne1, e_feq2, e_fne2, e_seq, e_sne, e_ta1, e_ta2, Nat.zero_add, Nat.add_zero, Bool.not_true, Bool.not_false]
        rw [wrap64_id (by omega) (by omega)]
        refine ⟨hi - (m + 1), by omega, m + 1, hi, k + 1, rfl, by simp, by omega, by omega, by omega, by omega, fun i hi' hmi => ?_, hup, h2', st1.trans st2, t2⟩
        by_cases e : i = m
        · subst e; omega
        · obtain ⟨hoki, _, _⟩ := ok.sh _ (List.getElem_mem hi')
          have := srt i m hi' hmn (by omega)
          have := hokm.ctl_lt
          omega
      · simp only [c2, decide_false, e_fd, e_nck, e_pkt, e_pkf, e_gdtt, e_gdtf, e_gdft, e_gdff, e_ift, e_iff, e_not, e_ln, e_lnT, e_cp, e_cvi, e_ex20, e_ex21, e_ex30, e_ex31, e_ex32, e_add, e_sub, e_mul, e_quo, e_rem, e_and, e_or, e_xor, e_shl, e_shr, e_eql, e_neq, e_lss, e_leq, e_gtr, e_geq, e_beq, e_bne, e_peq1, e_peq2, e_pne1, e_pne2, e_zeq1, e_zeq2, e_zne1, e_zne2, e_feq1, e_fne1, e_feq2, e_fne2, e_seq, e_sne, e_ta1, e_ta2, Nat.zero_add, Nat.add_zero, Bool.not_true, Bool.not_false]
        exact hS w2 (k + 1) m hmn (by omega) ⟨by omega, by omega⟩ h2' (st1.trans st2)
  · have hlt' : ¬ (lo : Int) < (hi : Int) := by omega
    simp only [hlt', decide_false, e_fd, e_nck, e_pkt, e_pkf, e_gdtt, e_gdtf, e_gdft, e_gdff, e_ift, e_iff, e_not, e_ln, e_lnT, e_cp, e_cvi, e_ex20, e_ex21, e_ex30, e_ex31, e_ex32, e_add, e_sub, e_mul, e_quo, e_rem, e_and, e_or, e_xor, e_shl, e_shr, e_eql, e_neq, e_lss, e_leq, e_gtr, e_geq, e_beq, e_bne, e_peq1, e_peq2, e_pne1, e_pne2, e_zeq1, e_zeq2, e_zne1, e_zne2, e_feq1, e_fne1, e_feq2, e_fne2, e_seq, e_sne, e_ta1, e_ta2, Nat.zero_add, Nat.add_zero, Bool.not_true, Bool.not_false]
    unfold s36_p1
    refine hN w1 k hk4 (fun s hs q => ?_) h1 st1
    obtain ⟨i, hi', rfl⟩ := List.getElem_of_mem hs
    rcases Nat.lt_or_ge i lo with c | c
    · have := hlow i hi' c; have := q.2; omega
    · have := hup i hi' (by omega); have := q.1; omega
end
end Go.Proofs.Qxb6500893aDoor
