import Derived.Test.Qxb6500893aDoorA24
namespace Go.Proofs.Qxb6500893aDoor
open Go.Sh Go.RowKit
set_option linter.unusedVariables false
set_option linter.unusedSimpArgs false

section
variable {w0 w w' : World} {K : Value → World → Prop} {ab p sb so k tb pb : Nat} {M : Am} {A : Ar} {sh : Shp} {T : Tb} {mob : Option Nat} {mv : Value} {xs : List Nat} {C : Prop} {F : List Nat} {t8 t9 : Value}
theorem pcS_cb (hok : sh.Ok) (hA : ∀ i, i < 4096 → A.ws i < 18446744073709551616) : pcS A sh (mapW sh.n) = ((List.range (mapW sh.n)).map (fun t => cb 64 (A.ws (sh.bm + t)))).sum := by
  have h1 := hok.fst
  have h2 := hok.fin
  have h3 := hok.lim
  have e : (List.range (mapW sh.n)).map (fun i => pcF (A.ws (sh.bm + i))) = (List.range (mapW sh.n)).map (fun t => cb 64 (A.ws (sh.bm + t))) :=
    List.map_congr_left (fun t ht => by
      rw [List.mem_range] at ht
      exact pcF_ok (hA _ (by omega)))
  unfold pcS
  rw [e]
theorem bitX_cut {j : Nat} {ws : Nat → Nat} (hj : j / 64 < mapW sh.n) : bitX (cutW ws sh.bm (mapW sh.n)) j = (ws (sh.mc j)).testBit (j % 64) := by
  unfold bitX cutW Shp.mc
  rw [List.getD_eq_getElem?_getD, List.getElem?_map, List.getElem?_range hj]
  rfl
theorem audit_mid (hok : sh.Ok) (hA : ∀ i, i < 4096 → A.ws i < 18446744073709551616) (hC : C → PoolOk A.ws sh F) (h : Au w0 w ab p sb so M A sh k mob mv (cutW A.ws sh.bm (mapW sh.n)))
    (hK : ∀ w' k' code, Pt w' ab p M (tk A k') → Kp (OwnA ab M) w0 w' → (C → code = 0) → K (I code) w') :
    s48_p4 K (P sb so) (P p 0) (U64 sh.n) (U64 (A.ws (sh.ctl + 2))) mv (I (pcS A sh (mapW sh.n))) w := by
  obtain ⟨hm, hn4, hm1⟩ := mapW_small hok
  have hfst := hok.fst
  have hfin := hok.fin
  have hlim := hok.lim
  have hctl := fst_ge hok
  have hnle := n_le sh.n
  have hu := hA (sh.ctl + 2) (by omega)
  have pcb := pcS_le A sh (mapW sh.n)
  have bad : ¬ C → cl Tryd.prog 54 #[P p 0, I 11] (fun t w => K t w) w := fun hc => por_ok h.pt (hK _ _ _ h.pt h.kp (fun c => absurd c hc))
  -- behind the look at the last word
  have rest : fd 1 (P p 0) (fun t119 w => ld1 t119 (fun t120 w => boI .neq t120 (.int .i64 0) (fun t121 w => gd t121 false (fun K w => K (I (pcS A sh (mapW sh.n))) w) (fun t123 w => gd t121 false (cvi .u64 t123) (fun t124 w => gd t121 false (fun K w => K (U64 (A.ws (sh.ctl + 2))) w) (fun t125 w => gd t121 false (boI .neq t124 t125) (fun t126 w => pk t121 (.bool true) t126 (fun t127 w => ifb t127 (cl Tryd.prog 54 #[P p 0, (.int .i64 11)] (fun t128 w => K t128 w) w) (nck (P sb so) (fun t130 w => fd 0 t130 (fun t131 w => ld1 t131 (fun t132 w => boI .add t132 (.int .u32 1) (fun t133 w => cl Tryd.prog 55 #[P p 0, t133] (fun t134 w => s48_p3 K (P sb so) (P p 0) (U64 sh.n) (U64 (A.ws (sh.ctl + 2))) mv (.int .u64 0) t134 w) w) w) w) w) w)) w) w) w) w) w) w) w) w := by
    try simp only [e_fd, e_nck, e_pkt, e_pkf, e_gdtt, e_gdtf, e_gdft, e_gdff, e_ift, e_iff, e_not, e_ln, e_lnT, e_cp, e_cvi, e_ex20, e_ex21, e_ex30, e_ex31, e_ex32, e_add, e_sub, e_mul, e_quo, e_rem, e_and, e_or, e_xor, e_shl, e_shr, e_eql, e_neq, e_lss, e_leq, e_gtr, e_geq, e_beq, e_bne, e_peq1, e_peq2, e_pne1, e_pne2, e_zeq1, e_zeq2, e_zne1, e_zne2, e_feq1, e_fne1, e_feq2, e_fne2, e_seq, e_sne, e_ta1, e_ta2, Nat.zero_add, Nat.add_zero, Bool.not_true, Bool.not_false]
    refine ld1_r h.pt.port rfl ?_
    simp only [bne_self_eq_false, e_fd, e_nck, e_pkt, e_pkf, e_gdtt, e_gdtf, e_gdft, e_gdff, e_ift, e_iff, e_not, e_ln, e_lnT, e_cp, e_cvi, e_ex20, e_ex21, e_ex30, e_ex31, e_ex32, e_add, e_sub, e_mul, e_quo, e_rem, e_and, e_or, e_xor, e_shl, e_shr, e_eql, e_neq, e_lss, e_leq, e_gtr, e_geq, e_beq, e_bne, e_peq1, e_peq2, e_pne1, e_pne2, e_zeq1, e_zeq2, e_zne1, e_zne2, e_feq1, e_fne1, e_feq2, e_fne2, e_seq, e_sne, e_ta1, e_ta2, Nat.zero_add, Nat.add_zero, Bool.not_true, Bool.not_false]
    rw [w64 (by omega)]
    by_cases he : pcS A sh (mapW sh.n) = A.ws (sh.ctl + 2)
    · have he' : (((pcS A sh (mapW sh.n) : Nat) : Int) != ((A.ws (sh.ctl + 2) : Nat) : Int)) = false := by rw [he]; exact bne_self_eq_false _
      simp only [he', e_fd, e_nck, e_pkt, e_pkf, e_gdtt, e_gdtf, e_gdft, e_gdff, e_ift, e_iff, e_not, e_ln, e_lnT, e_cp, e_cvi, e_ex20, e_ex21, e_ex30, e_ex31, e_ex32, e_add, e_sub, e_mul, e_quo, e_rem, e_and, e_or, e_xor, e_shl, e_shr, e_eql, e_neq, e_lss, e_leq, e_gtr, e_geq, e_beq, e_bne, e_peq1, e_peq2, e_pne1, e_pne2, e_zeq1, e_zeq2, e_zne1, e_zne2, e_feq1, e_fne1, e_feq2, e_fne2, e_seq, e_sne, e_ta1, e_ta2, Nat.zero_add, Nat.add_zero, Bool.not_true, Bool.not_false]
      refine h.shp.ld (k := 0) (by decide) rfl rfl ?_
      try simp only [e_fd, e_nck, e_pkt, e_pkf, e_gdtt, e_gdtf, e_gdft, e_gdff, e_ift, e_iff, e_not, e_ln, e_lnT, e_cp, e_cvi, e_ex20, e_ex21, e_ex30, e_ex31, e_ex32, e_add, e_sub, e_mul, e_quo, e_rem, e_and, e_or, e_xor, e_shl, e_shr, e_eql, e_neq, e_lss, e_leq, e_gtr, e_geq, e_beq, e_bne, e_peq1, e_peq2, e_pne1, e_pne2, e_zeq1, e_zeq2, e_zne1, e_zne2, e_feq1, e_fne1, e_feq2, e_fne2, e_seq, e_sne, e_ta1, e_ta2, Nat.zero_add, Nat.add_zero, Bool.not_true, Bool.not_false]
      rw [ctlA (z := 1) (k := 1) rfl hok (by decide)]
      refine h.load (by omega) fun w1 h1 => ?_
      refine audit_l2 hok hA hC (hA _ (by omega)) h1 cutW_len (fun c j hj => ?_) (fun c => (hC c).chain) hK
      rw [bitX_cut (by omega), Bool.eq_iff_iff, (hC c).bits j (by omega), decide_eq_true_eq]
      exact ⟨fun q => q.2, fun q => ⟨hj, q⟩⟩
    · have he' : (((pcS A sh (mapW sh.n) : Nat) : Int) != ((A.ws (sh.ctl + 2) : Nat) : Int)) = true := by rw [bne_iff_ne]; omega
      simp only [he', e_fd, e_nck, e_pkt, e_pkf, e_gdtt, e_gdtf, e_gdft, e_gdff, e_ift, e_iff, e_not, e_ln, e_lnT, e_cp, e_cvi, e_ex20, e_ex21, e_ex30, e_ex31, e_ex32, e_add, e_sub, e_mul, e_quo, e_rem, e_and, e_or, e_xor, e_shl, e_shr, e_eql, e_neq, e_lss, e_leq, e_gtr, e_geq, e_beq, e_bne, e_peq1, e_peq2, e_pne1, e_pne2, e_zeq1, e_zeq2, e_zne1, e_zne2, e_feq1, e_fne1, e_feq2, e_fne2, e_seq, e_sne, e_ta1, e_ta2, Nat.zero_add, Nat.add_zero, Bool.not_true, Bool.not_false]
      exact bad (fun c => he (by rw [pcS_cb hok hA]; exact (hC c).marked hok))
  unfold s48_p4
  try simp only [e_fd, e_nck, e_pkt, e_pkf, e_gdtt, e_gdtf, e_gdft, e_gdff, e_ift, e_iff, e_not, e_ln, e_lnT, e_cp, e_cvi, e_ex20, e_ex21, e_ex30, e_ex31, e_ex32, e_add, e_sub, e_mul, e_quo, e_rem, e_and, e_or, e_xor, e_shl, e_shr, e_eql, e_neq, e_lss, e_leq, e_gtr, e_geq, e_beq, e_bne, e_peq1, e_peq2, e_pne1, e_pne2, e_zeq1, e_zeq2, e_zne1, e_zne2, e_feq1, e_fne1, e_feq2, e_fne2, e_seq, e_sne, e_ta1, e_ta2, Nat.zero_add, Nat.add_zero, Bool.not_true, Bool.not_false]
  refine h.shp.ld (k := 5) (by decide) rfl rfl ?_
  try simp only [e_fd, e_nck, e_pkt, e_pkf, e_gdtt, e_gdtf, e_gdft, e_gdff, e_ift, e_iff, e_not, e_ln, e_lnT, e_cp, e_cvi, e_ex20, e_ex21, e_ex30, e_ex31, e_ex32, e_add, e_sub, e_mul, e_quo, e_rem, e_and, e_or, e_xor, e_shl, e_shr, e_eql, e_neq, e_lss, e_leq, e_gtr, e_geq, e_beq, e_bne, e_peq1, e_peq2, e_pne1, e_pne2, e_zeq1, e_zeq2, e_zne1, e_zne2, e_feq1, e_fne1, e_feq2, e_fne2, e_seq, e_sne, e_ta1, e_ta2, Nat.zero_add, Nat.add_zero, Bool.not_true, Bool.not_false]
  refine ⟨by decide, ?_⟩
  have e3 : ((sh.n : Nat) : Int).tmod 64 = ((sh.n % 64 : Nat) : Int) := by rw [Int.tmod_eq_emod_of_nonneg (by omega)]; omega
  rw [e3]
  simp only [e_fd, e_nck, e_pkt, e_pkf, e_gdtt, e_gdtf, e_gdft, e_gdff, e_ift, e_iff, e_not, e_ln, e_lnT, e_cp, e_cvi, e_ex20, e_ex21, e_ex30, e_ex31, e_ex32, e_add, e_sub, e_mul, e_quo, e_rem, e_and, e_or, e_xor, e_shl, e_shr, e_eql, e_neq, e_lss, e_leq, e_gtr, e_geq, e_beq, e_bne, e_peq1, e_peq2, e_pne1, e_pne2, e_zeq1, e_zeq2, e_zne1, e_zne2, e_feq1, e_fne1, e_feq2, e_fne2, e_seq, e_sne, e_ta1, e_ta2, Nat.zero_add, Nat.add_zero, Bool.not_true, Bool.not_false] at rest
  by_cases ht : sh.n % 64 = 0
  · have et : (((sh.n % 64 : Nat) : Int) != 0) = false := by rw [ht]; rfl
    simp only [et, e_fd, e_nck, e_pkt, e_pkf, e_gdtt, e_gdtf, e_gdft, e_gdff, e_ift, e_iff, e_not, e_ln, e_lnT, e_cp, e_cvi, e_ex20, e_ex21, e_ex30, e_ex31, e_ex32, e_add, e_sub, e_mul, e_quo, e_rem, e_and, e_or, e_xor, e_shl, e_shr, e_eql, e_neq, e_lss, e_leq, e_gtr, e_geq, e_beq, e_bne, e_peq1, e_peq2, e_pne1, e_pne2, e_zeq1, e_zeq2, e_zne1, e_zne2, e_feq1, e_fne1, e_feq2, e_fne2, e_seq, e_sne, e_ta1, e_ta2, Nat.zero_add, Nat.add_zero, Bool.not_true, Bool.not_false]
    exact rest
  · have et : (((sh.n % 64 : Nat) : Int) != 0) = true := by rw [bne_iff_ne]; omega
    simp only [et, e_fd, e_nck, e_pkt, e_pkf, e_gdtt, e_gdtf, e_gdft, e_gdff, e_ift, e_iff, e_not, e_ln, e_lnT, e_cp, e_cvi, e_ex20, e_ex21, e_ex30, e_ex31, e_ex32, e_add, e_sub, e_mul, e_quo, e_rem, e_and, e_or, e_xor, e_shl, e_shr, e_eql, e_neq, e_lss, e_leq, e_gtr, e_geq, e_beq, e_bne, e_peq1, e_peq2, e_pne1, e_pne2, e_zeq1, e_zeq2, e_zne1, e_zne2, e_feq1, e_fne1, e_feq2, e_fne2, e_seq, e_sne, e_ta1, e_ta2, Nat.zero_add, Nat.add_zero, Bool.not_true, Bool.not_false]
    refine h.mks_.ln ?_
    rw [cutW_len]
    try simp only [e_fd, e_nck, e_pkt, e_pkf, e_gdtt, e_gdtf, e_gdft, e_gdff, e_ift, e_iff, e_not, e_ln, e_lnT, e_cp, e_cvi, e_ex20, e_ex21, e_ex30, e_ex31, e_ex32, e_add, e_sub, e_mul, e_quo, e_rem, e_and, e_or, e_xor, e_shl, e_shr, e_eql, e_neq, e_lss, e_leq, e_gtr, e_geq, e_beq, e_bne, e_peq1, e_peq2, e_pne1, e_pne2, e_zeq1, e_zeq2, e_zne1, e_zne2, e_feq1, e_fne1, e_feq2, e_fne2, e_seq, e_sne, e_ta1, e_ta2, Nat.zero_add, Nat.add_zero, Bool.not_true, Bool.not_false]
    rw [show ((mapW sh.n : Nat) : Int) - 1 = ((mapW sh.n - 1 : Nat) : Int) by omega, wrap64_id (by omega) (by omega)]
    have hlast : mapW sh.n - 1 < (cutW A.ws sh.bm (mapW sh.n)).length := by rw [cutW_len]; omega
    refine h.mks_.ix g1_len hlast fun b l hb hr hg hll _ => ?_
    have ex : (cutW A.ws sh.bm (mapW sh.n))[mapW sh.n - 1] = A.ws (sh.bm + (mapW sh.n - 1)) := by simp [cutW]
    refine ld1_r hr (v := U64 (A.ws (sh.bm + (mapW sh.n - 1)))) (by have := hg 0 (by decide); rw [Nat.add_zero] at this; rw [this, ex]; rfl) ?_
    try simp only [e_fd, e_nck, e_pkt, e_pkf, e_gdtt, e_gdtf, e_gdft, e_gdff, e_ift, e_iff, e_not, e_ln, e_lnT, e_cp, e_cvi, e_ex20, e_ex21, e_ex30, e_ex31, e_ex32, e_add, e_sub, e_mul, e_quo, e_rem, e_and, e_or, e_xor, e_shl, e_shr, e_eql, e_neq, e_lss, e_leq, e_gtr, e_geq, e_beq, e_bne, e_peq1, e_peq2, e_pne1, e_pne2, e_zeq1, e_zeq2, e_zne1, e_zne2, e_feq1, e_fne1, e_feq2, e_fne2, e_seq, e_sne, e_ta1, e_ta2, Nat.zero_add, Nat.add_zero, Bool.not_true, Bool.not_false]
    have hxb := hA (sh.bm + (mapW sh.n - 1)) (by omega)
    rw [shrL (n := ((sh.n % 64 : Nat) : Int)) (k := sh.n % 64) rfl (by omega)]
    refine ⟨by omega, ?_⟩
    by_cases hz : A.ws (sh.bm + (mapW sh.n - 1)) / 2 ^ (sh.n % 64) = 0
    · rw [hz]
      simp only [show (((0 : Nat) : Int) != 0) = false from rfl, e_fd, e_nck, e_pkt, e_pkf, e_gdtt, e_gdtf, e_gdft, e_gdff, e_ift, e_iff, e_not, e_ln, e_lnT, e_cp, e_cvi, e_ex20, e_ex21, e_ex30, e_ex31, e_ex32, e_add, e_sub, e_mul, e_quo, e_rem, e_and, e_or, e_xor, e_shl, e_shr, e_eql, e_neq, e_lss, e_leq, e_gtr, e_geq, e_beq, e_bne, e_peq1, e_peq2, e_pne1, e_pne2, e_zeq1, e_zeq2, e_zne1, e_zne2, e_feq1, e_fne1, e_feq2, e_fne2, e_seq, e_sne, e_ta1, e_ta2, Nat.zero_add, Nat.add_zero, Bool.not_true, Bool.not_false]
      exact rest
    · have ez : (((A.ws (sh.bm + (mapW sh.n - 1)) / 2 ^ (sh.n % 64) : Nat) : Int) != 0) = true := by rw [bne_iff_ne]; omega
      simp only [ez, e_fd, e_nck, e_pkt, e_pkf, e_gdtt, e_gdtf, e_gdft, e_gdff, e_ift, e_iff, e_not, e_ln, e_lnT, e_cp, e_cvi, e_ex20, e_ex21, e_ex30, e_ex31, e_ex32, e_add, e_sub, e_mul, e_quo, e_rem, e_and, e_or, e_xor, e_shl, e_shr, e_eql, e_neq, e_lss, e_leq, e_gtr, e_geq, e_beq, e_bne, e_peq1, e_peq2, e_pne1, e_pne2, e_zeq1, e_zeq2, e_zne1, e_zne2, e_feq1, e_fne1, e_feq2, e_fne2, e_seq, e_sne, e_ta1, e_ta2, Nat.zero_add, Nat.add_zero, Bool.not_true, Bool.not_false]
      exact bad (fun c => hz ((hC c).tail hok hxb ht))

theorem audit_ok {i : Nat} (ha : Arn w ab M A) (ht : Tbl w tb pb ab T) (ok : T.Ok) (hi : i < T.ps.length) (hC : C → PoolOk A.ws T.ps[i] F)
    (hK : ∀ w' k code, Arn w' ab M (tk A k) → StA w w' ab M M → (C → code = 0) → K (I code) w') : cl Tryd.prog 48 #[P tb 0, I (i : Nat)] K w := by
  apply c48
  unfold s48_p9
  refine shapeOf_ok ht (fun hn => absurd ⟨by omega, by omega⟩ hn) (fun i' hi' hid hsh => ?_)
  obtain rfl : i' = i := by omega
  have hok := (ok.sh _ (List.getElem_mem hi)).1
  generalize T.ps[i'] = sh at *
  obtain ⟨hm, hn4, hm1⟩ := mapW_small hok
  have hfst := hok.fst
  have hfin := hok.fin
  have hlim := hok.lim
  have hctl := fst_ge hok
  have hA := ha.rng
  have hbm := hok.bm
  simp only [bne_self_eq_false, e_fd, e_nck, e_pkt, e_pkf, e_gdtt, e_gdtf, e_gdft, e_gdff, e_ift, e_iff, e_not, e_ln, e_lnT, e_cp, e_cvi, e_ex20, e_ex21, e_ex30, e_ex31, e_ex32, e_add, e_sub, e_mul, e_quo, e_rem, e_and, e_or, e_xor, e_shl, e_shr, e_eql, e_neq, e_lss, e_leq, e_gtr, e_geq, e_beq, e_bne, e_peq1, e_peq2, e_pne1, e_pne2, e_zeq1, e_zeq2, e_zne1, e_zne2, e_feq1, e_fne1, e_feq2, e_fne2, e_seq, e_sne, e_ta1, e_ta2, Nat.zero_add, Nat.add_zero, Bool.not_true, Bool.not_false]
  refine ld1_r ht.row rfl ?_
  refine newPort ha fun w1 p1 hk1 => ?_
  have hz1 := hk1.size
  -- the end
  have fin : ∀ {w' : World} {k' : Nat} {code : Int}, Pt w' ab w.heap.size M (tk A k') → Kp (OwnA ab M) w w' → (C → code = 0) → K (I code) w' := by
    intro w' k' code pt' kp' hc
    exact hK w' k' code pt'.arn ⟨kp', rfl, fun b hb => .inl hb⟩ hc
  refine sealed_ok p1 (hsh.kp' hk1) (by omega) fun w2 p2 st2 => ?_
  have sh2 := p1.sh st2 (hsh.kp' hk1)
  have toK : ∀ {w' : World}, StP w1 w' ab w.heap.size M M → Kp (OwnA ab M) w w' := fun st => (st.toA hk1 (Nat.le_refl _)).kp
  have e1 : ({ A with st := tick A.st 1 } : Ar) = tk A 1 := rfl
  rw [e1] at p2
  by_cases hs : A.ws sh.ctl = sealN sh
  · have hs' : (A.ws sh.ctl == sealN sh) = true := by simpa using hs
    simp only [hs', e_fd, e_nck, e_pkt, e_pkf, e_gdtt, e_gdtf, e_gdft, e_gdff, e_ift, e_iff, e_not, e_ln, e_lnT, e_cp, e_cvi, e_ex20, e_ex21, e_ex30, e_ex31, e_ex32, e_add, e_sub, e_mul, e_quo, e_rem, e_and, e_or, e_xor, e_shl, e_shr, e_eql, e_neq, e_lss, e_leq, e_gtr, e_geq, e_beq, e_bne, e_peq1, e_peq2, e_pne1, e_pne2, e_zeq1, e_zeq2, e_zne1, e_zne2, e_feq1, e_fne1, e_feq2, e_fne2, e_seq, e_sne, e_ta1, e_ta2, Nat.zero_add, Nat.add_zero, Bool.not_true, Bool.not_false]
    refine sh2.ld (k := 5) (by decide) rfl rfl ?_
    try simp only [e_fd, e_nck, e_pkt, e_pkf, e_gdtt, e_gdtf, e_gdft, e_gdff, e_ift, e_iff, e_not, e_ln, e_lnT, e_cp, e_cvi, e_ex20, e_ex21, e_ex30, e_ex31, e_ex32, e_add, e_sub, e_mul, e_quo, e_rem, e_and, e_or, e_xor, e_shl, e_shr, e_eql, e_neq, e_lss, e_leq, e_gtr, e_geq, e_beq, e_bne, e_peq1, e_peq2, e_pne1, e_pne2, e_zeq1, e_zeq2, e_zne1, e_zne2, e_feq1, e_fne1, e_feq2, e_fne2, e_seq, e_sne, e_ta1, e_ta2, Nat.zero_add, Nat.add_zero, Bool.not_true, Bool.not_false]
    rw [w64 (show sh.n < 18446744073709551616 by omega)]
    refine sh2.ld (k := 0) (by decide) rfl rfl ?_
    try simp only [e_fd, e_nck, e_pkt, e_pkf, e_gdtt, e_gdtf, e_gdft, e_gdff, e_ift, e_iff, e_not, e_ln, e_lnT, e_cp, e_cvi, e_ex20, e_ex21, e_ex30, e_ex31, e_ex32, e_add, e_sub, e_mul, e_quo, e_rem, e_and, e_or, e_xor, e_shl, e_shr, e_eql, e_neq, e_lss, e_leq, e_gtr, e_geq, e_beq, e_bne, e_peq1, e_peq2, e_pne1, e_pne2, e_zeq1, e_zeq2, e_zne1, e_zne2, e_feq1, e_fne1, e_feq2, e_fne2, e_seq, e_sne, e_ta1, e_ta2, Nat.zero_add, Nat.add_zero, Bool.not_true, Bool.not_false]
    rw [ctlA (z := 2) (k := 2) rfl hok (by decide)]
    refine pload_ok p2 (by omega) fun w3 p3 st3 => ?_
    have st13 := st2.trans st3
    have sh3 := p2.sh st3 sh2
    rw [show ({ tk A 1 with st := tick (tk A 1).st 1 } : Ar) = tk A 2 by rw [show tk A 2 = tk (tk A 1) 1 from (tk_add A 1 1).symm]; rfl] at p3
    try simp only [e_fd, e_nck, e_pkt, e_pkf, e_gdtt, e_gdtf, e_gdft, e_gdff, e_ift, e_iff, e_not, e_ln, e_lnT, e_cp, e_cvi, e_ex20, e_ex21, e_ex30, e_ex31, e_ex32, e_add, e_sub, e_mul, e_quo, e_rem, e_and, e_or, e_xor, e_shl, e_shr, e_eql, e_neq, e_lss, e_leq, e_gtr, e_geq, e_beq, e_bne, e_peq1, e_peq2, e_pne1, e_pne2, e_zeq1, e_zeq2, e_zne1, e_zne2, e_feq1, e_fne1, e_feq2, e_fne2, e_seq, e_sne, e_ta1, e_ta2, Nat.zero_add, Nat.add_zero, Bool.not_true, Bool.not_false]
    refine sh3.ld (k := 0) (by decide) rfl rfl ?_
    try simp only [e_fd, e_nck, e_pkt, e_pkf, e_gdtt, e_gdtf, e_gdft, e_gdff, e_ift, e_iff, e_not, e_ln, e_lnT, e_cp, e_cvi, e_ex20, e_ex21, e_ex30, e_ex31, e_ex32, e_add, e_sub, e_mul, e_quo, e_rem, e_and, e_or, e_xor, e_shl, e_shr, e_eql, e_neq, e_lss, e_leq, e_gtr, e_geq, e_beq, e_bne, e_peq1, e_peq2, e_pne1, e_pne2, e_zeq1, e_zeq2, e_zne1, e_zne2, e_feq1, e_fne1, e_feq2, e_fne2, e_seq, e_sne, e_ta1, e_ta2, Nat.zero_add, Nat.add_zero, Bool.not_true, Bool.not_false]
    rw [ctlA (z := 3) (k := 3) rfl hok (by decide)]
    refine pload_ok p3 (by omega) fun w4 p4 st4 => ?_
    have st14 := st13.trans st4
    have sh4 := p3.sh st4 sh3
    rw [show ({ tk A 2 with st := tick (tk A 2).st 1 } : Ar) = tk A 3 by rw [show tk A 3 = tk (tk A 2) 1 from (tk_add A 2 1).symm]; rfl] at p4
    have ew : ∀ a, (tk A 1).ws a = A.ws a := fun _ => rfl
    have ew2 : ∀ a, (tk A 2).ws a = A.ws a := fun _ => rfl
    rw [ew, ew2]
    try simp only [e_fd, e_nck, e_pkt, e_pkf, e_gdtt, e_gdtf, e_gdft, e_gdff, e_ift, e_iff, e_not, e_ln, e_lnT, e_cp, e_cvi, e_ex20, e_ex21, e_ex30, e_ex31, e_ex32, e_add, e_sub, e_mul, e_quo, e_rem, e_and, e_or, e_xor, e_shl, e_shr, e_eql, e_neq, e_lss, e_leq, e_gtr, e_geq, e_beq, e_bne, e_peq1, e_peq2, e_pne1, e_pne2, e_zeq1, e_zeq2, e_zne1, e_zne2, e_feq1, e_fne1, e_feq2, e_fne2, e_seq, e_sne, e_ta1, e_ta2, Nat.zero_add, Nat.add_zero, Bool.not_true, Bool.not_false]
    refine ld1_r p4.port rfl ?_
    simp only [bne_self_eq_false, e_fd, e_nck, e_pkt, e_pkf, e_gdtt, e_gdtf, e_gdft, e_gdff, e_ift, e_iff, e_not, e_ln, e_lnT, e_cp, e_cvi, e_ex20, e_ex21, e_ex30, e_ex31, e_ex32, e_add, e_sub, e_mul, e_quo, e_rem, e_and, e_or, e_xor, e_shl, e_shr, e_eql, e_neq, e_lss, e_leq, e_gtr, e_geq, e_beq, e_bne, e_peq1, e_peq2, e_pne1, e_pne2, e_zeq1, e_zeq2, e_zne1, e_zne2, e_feq1, e_fne1, e_feq2, e_fne2, e_seq, e_sne, e_ta1, e_ta2, Nat.zero_add, Nat.add_zero, Bool.not_true, Bool.not_false]
    have bad : ¬ C → cl Tryd.prog 54 #[P w.heap.size 0, I 11] (fun t w => K t w) w4 := fun hc => por_ok p4 (fin p4 (toK st14) (fun c => absurd c hc))
    by_cases g1' : ((sh.n : Nat) : Int) < ((A.ws (sh.ctl + 3) : Nat) : Int)
    · simp only [g1', decide_true, e_fd, e_nck, e_pkt, e_pkf, e_gdtt, e_gdtf, e_gdft, e_gdff, e_ift, e_iff, e_not, e_ln, e_lnT, e_cp, e_cvi, e_ex20, e_ex21, e_ex30, e_ex31, e_ex32, e_add, e_sub, e_mul, e_quo, e_rem, e_and, e_or, e_xor, e_shl, e_shr, e_eql, e_neq, e_lss, e_leq, e_gtr, e_geq, e_beq, e_bne, e_peq1, e_peq2, e_pne1, e_pne2, e_zeq1, e_zeq2, e_zne1, e_zne2, e_feq1, e_fne1, e_feq2, e_fne2, e_seq, e_sne, e_ta1, e_ta2, Nat.zero_add, Nat.add_zero, Bool.not_true, Bool.not_false]
      exact bad (fun c => by have := (hC c).pk2; omega)
    · simp only [g1', decide_false, e_fd, e_nck, e_pkt, e_pkf, e_gdtt, e_gdtf, e_gdft, e_gdff, e_ift, e_iff, e_not, e_ln, e_lnT, e_cp, e_cvi, e_ex20, e_ex21, e_ex30, e_ex31, e_ex32, e_add, e_sub, e_mul, e_quo, e_rem, e_and, e_or, e_xor, e_shl, e_shr, e_eql, e_neq, e_lss, e_leq, e_gtr, e_geq, e_beq, e_bne, e_peq1, e_peq2, e_pne1, e_pne2, e_zeq1, e_zeq2, e_zne1, e_zne2, e_feq1, e_fne1, e_feq2, e_fne2, e_seq, e_sne, e_ta1, e_ta2, Nat.zero_add, Nat.add_zero, Bool.not_true, Bool.not_false]
      by_cases g2 : ((A.ws (sh.ctl + 3) : Nat) : Int) < ((A.ws (sh.ctl + 2) : Nat) : Int)
      · simp only [g2, decide_true, e_fd, e_nck, e_pkt, e_pkf, e_gdtt, e_gdtf, e_gdft, e_gdff, e_ift, e_iff, e_not, e_ln, e_lnT, e_cp, e_cvi, e_ex20, e_ex21, e_ex30, e_ex31, e_ex32, e_add, e_sub, e_mul, e_quo, e_rem, e_and, e_or, e_xor, e_shl, e_shr, e_eql, e_neq, e_lss, e_leq, e_gtr, e_geq, e_beq, e_bne, e_peq1, e_peq2, e_pne1, e_pne2, e_zeq1, e_zeq2, e_zne1, e_zne2, e_feq1, e_fne1, e_feq2, e_fne2, e_seq, e_sne, e_ta1, e_ta2, Nat.zero_add, Nat.add_zero, Bool.not_true, Bool.not_false]
        exact bad (fun c => by have := (hC c).pk1; omega)
      · simp only [g2, decide_false, e_fd, e_nck, e_pkt, e_pkf, e_gdtt, e_gdtf, e_gdft, e_gdff, e_ift, e_iff, e_not, e_ln, e_lnT, e_cp, e_cvi, e_ex20, e_ex21, e_ex30, e_ex31, e_ex32, e_add, e_sub, e_mul, e_quo, e_rem, e_and, e_or, e_xor, e_shl, e_shr, e_eql, e_neq, e_lss, e_leq, e_gtr, e_geq, e_beq, e_bne, e_peq1, e_peq2, e_pne1, e_pne2, e_zeq1, e_zeq2, e_zne1, e_zne2, e_feq1, e_fne1, e_feq2, e_fne2, e_seq, e_sne, e_ta1, e_ta2, Nat.zero_add, Nat.add_zero, Bool.not_true, Bool.not_false]
        unfold s48_p8 s48_p8_d
        have p5 := p4.kp' (w' := drw w4) kp_drw
        have sh5 := sh4.kp' (w' := drw w4) kp_drw
        have kp5 : Kp (OwnA ab M) w (drw w4) := (toK st14).trans kp_drw
        generalize drw w4 = w5 at p5 sh5 kp5 ⊢
        try simp only [e_fd, e_nck, e_pkt, e_pkf, e_gdtt, e_gdtf, e_gdft, e_gdff, e_ift, e_iff, e_not, e_ln, e_lnT, e_cp, e_cvi, e_ex20, e_ex21, e_ex30, e_ex31, e_ex32, e_add, e_sub, e_mul, e_quo, e_rem, e_and, e_or, e_xor, e_shl, e_shr, e_eql, e_neq, e_lss, e_leq, e_gtr, e_geq, e_beq, e_bne, e_peq1, e_peq2, e_pne1, e_pne2, e_zeq1, e_zeq2, e_zne1, e_zne2, e_feq1, e_fne1, e_feq2, e_fne2, e_seq, e_sne, e_ta1, e_ta2, Nat.zero_add, Nat.add_zero, Bool.not_true, Bool.not_false]
        refine sh5.ld (k := 2) (by decide) rfl rfl ?_
        refine sh5.ld (k := 1) (by decide) rfl rfl ?_
        try simp only [e_fd, e_nck, e_pkt, e_pkf, e_gdtt, e_gdtf, e_gdft, e_gdff, e_ift, e_iff, e_not, e_ln, e_lnT, e_cp, e_cvi, e_ex20, e_ex21, e_ex30, e_ex31, e_ex32, e_add, e_sub, e_mul, e_quo, e_rem, e_and, e_or, e_xor, e_shl, e_shr, e_eql, e_neq, e_lss, e_leq, e_gtr, e_geq, e_beq, e_bne, e_peq1, e_peq2, e_pne1, e_pne2, e_zeq1, e_zeq2, e_zne1, e_zne2, e_feq1, e_fne1, e_feq2, e_fne2, e_seq, e_sne, e_ta1, e_ta2, Nat.zero_add, Nat.add_zero, Bool.not_true, Bool.not_false]
        rw [show ((sh.fst : Nat) : Int) - ((sh.bm : Nat) : Int) = ((mapW sh.n : Nat) : Int) by omega, w32 (by omega)]
        refine ⟨⟨by decide, by omega, by omega, by omega⟩, ?_⟩
        have em : (((mapW sh.n : Nat) : Int)).toNat = mapW sh.n := by omega
        rw [em]
        have k6 : Kp (fun _ => False) w5 (w5.alloc (.cells (zrep [(.int .u64 0)] (mapW sh.n * [(Value.int .u64 0)].length)).toArray 71)) := kp_alloc _
        have r6 : Row (w5.alloc (.cells (zrep [(.int .u64 0)] (mapW sh.n * [(Value.int .u64 0)].length)).toArray 71)) w5.heap.size 71 (zrep [(.int .u64 0)] (mapW sh.n * [(Value.int .u64 0)].length)) := Row.new _ _ _
        generalize w5.alloc (.cells (zrep [(.int .u64 0)] (mapW sh.n * [(Value.int .u64 0)].length)).toArray 71) = w6 at k6 r6 ⊢
        have hz5 := kp5.size
        have au : Au w w6 ab w.heap.size pb (i' * 6) M A sh 3 (some w5.heap.size) (.slice (some ⟨w5.heap.size, 0, none⟩) 0 (mapW sh.n)) [] :=
          ⟨p5.kp' k6, sh5.kp' k6, ⟨mapW sh.n, zrep [(.int .u64 0)] (mapW sh.n * [(Value.int .u64 0)].length), rfl, Nat.zero_le _, by simp [zrep], by simpa [rows] using r6⟩, fun b hb => by cases hb; exact hz5, kp5.then k6 (fun _ _ q => q.elim), Nat.le_refl _, ha, fun x hx => by cases hx⟩
        unfold s48_p7
        try simp only [e_fd, e_nck, e_pkt, e_pkf, e_gdtt, e_gdtf, e_gdft, e_gdff, e_ift, e_iff, e_not, e_ln, e_lnT, e_cp, e_cvi, e_ex20, e_ex21, e_ex30, e_ex31, e_ex32, e_add, e_sub, e_mul, e_quo, e_rem, e_and, e_or, e_xor, e_shl, e_shr, e_eql, e_neq, e_lss, e_leq, e_gtr, e_geq, e_beq, e_bne, e_peq1, e_peq2, e_pne1, e_pne2, e_zeq1, e_zeq2, e_zne1, e_zne2, e_feq1, e_fne1, e_feq2, e_fne2, e_seq, e_sne, e_ta1, e_ta2, Nat.zero_add, Nat.add_zero, Bool.not_true, Bool.not_false]
        refine au.shp.ld (k := 1) (by decide) rfl rfl ?_
        exact audit_l1 hok hA au fun w7 k7 mob7 mv7 h7 => audit_mid hok hA hC h7 (fun w8 k8 code pt8 kp8 hc => fin pt8 kp8 hc)
  · have hs' : (A.ws sh.ctl == sealN sh) = false := by simpa using hs
    simp only [hs', e_fd, e_nck, e_pkt, e_pkf, e_gdtt, e_gdtf, e_gdft, e_gdff, e_ift, e_iff, e_not, e_ln, e_lnT, e_cp, e_cvi, e_ex20, e_ex21, e_ex30, e_ex31, e_ex32, e_add, e_sub, e_mul, e_quo, e_rem, e_and, e_or, e_xor, e_shl, e_shr, e_eql, e_neq, e_lss, e_leq, e_gtr, e_geq, e_beq, e_bne, e_peq1, e_peq2, e_pne1, e_pne2, e_zeq1, e_zeq2, e_zne1, e_zne2, e_feq1, e_fne1, e_feq2, e_fne2, e_seq, e_sne, e_ta1, e_ta2, Nat.zero_add, Nat.add_zero, Bool.not_true, Bool.not_false]
    exact por_ok p2 (fin p2 (toK st2) (fun c => absurd (hC c).sl hs))

/-- all pools -/
theorem auditAll_ok {F : Nat → List Nat} (ha : Arn w ab M A) (ht : Tbl w tb pb ab T) (ok : T.Ok) (hC : C → ∀ i (hi : i < T.ps.length), PoolOk A.ws T.ps[i] (F i))
    (hK : ∀ w' k code, Arn w' ab M (tk A k) → StA w w' ab M M → (C → code = 0) → K (I code) w') : cl Tryd.prog 24 #[P tb 0] K w := by
  have hlen := ok.len
  apply c24
  unfold s24_p4
  try simp only [e_fd, e_nck, e_pkt, e_pkf, e_gdtt, e_gdtf, e_gdft, e_gdff, e_ift, e_iff, e_not, e_ln, e_lnT, e_cp, e_cvi, e_ex20, e_ex21, e_ex30, e_ex31, e_ex32, e_add, e_sub, e_mul, e_quo, e_rem, e_and, e_or, e_xor, e_shl, e_shr, e_eql, e_neq, e_lss, e_leq, e_gtr, e_geq, e_beq, e_bne, e_peq1, e_peq2, e_pne1, e_pne2, e_zeq1, e_zeq2, e_zne1, e_zne2, e_feq1, e_fne1, e_feq2, e_fne2, e_seq, e_sne, e_ta1, e_ta2, Nat.zero_add, Nat.add_zero, Bool.not_true, Bool.not_false]
  refine ld1_r ht.row rfl ?_
  try simp only [e_fd, e_nck, e_pkt, e_pkf, e_gdtt, e_gdtf, e_gdft, e_gdff, e_ift, e_iff, e_not, e_ln, e_lnT, e_cp, e_cvi, e_ex20, e_ex21, e_ex30, e_ex31, e_ex32, e_add, e_sub, e_mul, e_quo, e_rem, e_and, e_or, e_xor, e_shl, e_shr, e_eql, e_neq, e_lss, e_leq, e_gtr, e_geq, e_beq, e_bne, e_peq1, e_peq2, e_pne1, e_pne2, e_zeq1, e_zeq2, e_zne1, e_zne2, e_feq1, e_fne1, e_feq2, e_fne2, e_seq, e_sne, e_ta1, e_ta2, Nat.zero_add, Nat.add_zero, Bool.not_true, Bool.not_false]
  unfold s24_p3
  refine ⟨fun n l w' => ∃ (i k : Nat), n + i = T.ps.length ∧ l = [P tb 0, I T.ps.length, I i] ∧ Arn w' ab M (tk A k) ∧ StA w w' ab M M,
    T.ps.length, ⟨0, 0, rfl, rfl, by unfold tk; rw [tick_0 ha.st]; exact ha, StA.refl _ _ _⟩, ?_⟩
  rintro n l w1 ⟨i, k, hn, rfl, a1, st1⟩
  rw [s24_p3_Fe]
  unfold s24_p2
  try simp only [e_fd, e_nck, e_pkt, e_pkf, e_gdtt, e_gdtf, e_gdft, e_gdff, e_ift, e_iff, e_not, e_ln, e_lnT, e_cp, e_cvi, e_ex20, e_ex21, e_ex30, e_ex31, e_ex32, e_add, e_sub, e_mul, e_quo, e_rem, e_and, e_or, e_xor, e_shl, e_shr, e_eql, e_neq, e_lss, e_leq, e_gtr, e_geq, e_beq, e_bne, e_peq1, e_peq2, e_pne1, e_pne2, e_zeq1, e_zeq2, e_zne1, e_zne2, e_feq1, e_fne1, e_feq2, e_fne2, e_seq, e_sne, e_ta1, e_ta2, Nat.zero_add, Nat.add_zero, Bool.not_true, Bool.not_false]
  by_cases hlt : i < T.ps.length
  · have hlt' : (i : Int) < ((T.ps.length : Nat) : Int) := by omega
    simp only [hlt', decide_true, e_fd, e_nck, e_pkt, e_pkf, e_gdtt, e_gdtf, e_gdft, e_gdff, e_ift, e_iff, e_not, e_ln, e_lnT, e_cp, e_cvi, e_ex20, e_ex21, e_ex30, e_ex31, e_ex32, e_add, e_sub, e_mul, e_quo, e_rem, e_and, e_or, e_xor, e_shl, e_shr, e_eql, e_neq, e_lss, e_leq, e_gtr, e_geq, e_beq, e_bne, e_peq1, e_peq2, e_pne1, e_pne2, e_zeq1, e_zeq2, e_zne1, e_zne2, e_feq1, e_fne1, e_feq2, e_fne2, e_seq, e_sne, e_ta1, e_ta2, Nat.zero_add, Nat.add_zero, Bool.not_true, Bool.not_false]
    refine audit_ok (C := C) (F := F i) a1 (ht.stA ha st1) ok hlt (fun c => hC c i hlt) fun w2 k2 code a2 st2 hc => ?_
    rw [tk_add] at a2
    try simp only [e_fd, e_nck, e_pkt, e_pkf, e_gdtt, e_gdtf, e_gdft, e_gdff, e_ift, e_iff, e_not, e_ln, e_lnT, e_cp, e_cvi, e_ex20, e_ex21, e_ex30, e_ex31, e_ex32, e_add, e_sub, e_mul, e_quo, e_rem, e_and, e_or, e_xor, e_shl, e_shr, e_eql, e_neq, e_lss, e_leq, e_gtr, e_geq, e_beq, e_bne, e_peq1, e_peq2, e_pne1, e_pne2, e_zeq1, e_zeq2, e_zne1, e_zne2, e_feq1, e_fne1, e_feq2, e_fne2, e_seq, e_sne, e_ta1, e_ta2, Nat.zero_add, Nat.add_zero, Bool.not_true, Bool.not_false]
    by_cases h0 : code = 0
    · subst h0
      simp only [bne_self_eq_false, e_fd, e_nck, e_pkt, e_pkf, e_gdtt, e_gdtf, e_gdft, e_gdff, e_ift, e_iff, e_not, e_ln, e_lnT, e_cp, e_cvi, e_ex20, e_ex21, e_ex30, e_ex31, e_ex32, e_add, e_sub, e_mul, e_quo, e_rem, e_and, e_or, e_xor, e_shl, e_shr, e_eql, e_neq, e_lss, e_leq, e_gtr, e_geq, e_beq, e_bne, e_peq1, e_peq2, e_pne1, e_pne2, e_zeq1, e_zeq2, e_zne1, e_zne2, e_feq1, e_fne1, e_feq2, e_fne2, e_seq, e_sne, e_ta1, e_ta2, Nat.zero_add, Nat.add_zero, Bool.not_true, Bool.not_false]
      rw [wrap64_id (by omega) (by omega)]
      exact ⟨n - 1, by omega, i + 1, k + k2, by omega, by simp, a2, st1.trans st2⟩
    · have e : (code != 0) = true := by rw [bne_iff_ne]; exact h0
      simp only [e, e_fd, e_nck, e_pkt, e_pkf, e_gdtt, e_gdtf, e_gdft, e_gdff, e_ift, e_iff, e_not, e_ln, e_lnT, e_cp, e_cvi, e_ex20, e_ex21, e_ex30, e_ex31, e_ex32, e_add, e_sub, e_mul, e_quo, e_rem, e_and, e_or, e_xor, e_shl, e_shr, e_eql, e_neq, e_lss, e_leq, e_gtr, e_geq, e_beq, e_bne, e_peq1, e_peq2, e_pne1, e_pne2, e_zeq1, e_zeq2, e_zne1, e_zne2, e_feq1, e_fne1, e_feq2, e_fne2, e_seq, e_sne, e_ta1, e_ta2, Nat.zero_add, Nat.add_zero, Bool.not_true, Bool.not_false]
      exact hK w2 _ code a2 (st1.trans st2) hc
  · have hlt' : ¬ (i : Int) < ((T.ps.length : Nat) : Int) := by omega
    simp only [hlt', decide_false, e_fd, e_nck, e_pkt, e_pkf, e_gdtt, e_gdtf, e_gdft, e_gdff, e_ift, e_iff, e_not, e_ln, e_lnT, e_cp, e_cvi, e_ex20, e_ex21, e_ex30, e_ex31, e_ex32, e_add, e_sub, e_mul, e_quo, e_rem, e_and, e_or, e_xor, e_shl, e_shr, e_eql, e_neq, e_lss, e_leq, e_gtr, e_geq, e_beq, e_bne, e_peq1, e_peq2, e_pne1, e_pne2, e_zeq1, e_zeq2, e_zne1, e_zne2, e_feq1, e_fne1, e_feq2, e_fne2, e_seq, e_sne, e_ta1, e_ta2, Nat.zero_add, Nat.add_zero, Bool.not_true, Bool.not_false]
    unfold s24_p1
    exact hK w1 k 0 a1 st1 (fun _ => rfl)
end
end Go.Proofs.Qxb6500893aDoor
