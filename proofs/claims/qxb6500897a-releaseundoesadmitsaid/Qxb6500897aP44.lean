import Derived.Test.Qxb6500897aP43
namespace Go.Proofs.Qxb6500897a
open Go.Sh Go.RowKit
set_option linter.unusedVariables false
set_option linter.unusedSimpArgs false

def rowK (now : Int) (L : List Ent) (a : Nat) (s : Int) (c : Nat) (n kk : Int) : List Ctr := (List.range (rlen a)).map fun j => gk L a s c n kk (fst1 now a + (j : Nat))
theorem rowK_length (now : Int) (L : List Ent) (a : Nat) (s : Int) (c : Nat) (n kk : Int) : (rowK now L a s c n kk).length = rlen a := by simp [rowK]
theorem rowK_at {now : Int} {L : List Ent} {a : Nat} {s : Int} {c : Nat} {n kk : Int} {j : Nat} (h : j < (rowK now L a s c n kk).length) : (rowK now L a s c n kk)[j] = gk L a s c n kk (fst1 now a + (j : Nat)) := by simp [rowK]
theorem rowK_end (now : Int) (L : List Ent) (a : Nat) (s : Int) (c : Nat) (n : Int) : rowK now L a s c n (dw a) = rowOf now (L ++ [⟨a, s, c, n⟩]) a := by
  unfold rowK rowOf rowTo
  simp only [gk_end]

set_option maxRecDepth 100000 in
theorem fiK30_2 : fiK Try.prog 30 2 = some 2 := by kernel_rfl
set_option maxRecDepth 100000 in
theorem fiK30_0 : fiK Try.prog 30 0 = some 0 := by kernel_rfl

theorem book_ok {w : World} {now : Int} {L : List Ent} {fob : Option Nat} {fv : Value} {sob : Option Nat} {sv : Value} {its : List It} {lo a c : Nat} {o : Op} {nn : Int} {K : Value → World → Prop} (hV : VP w fob fv sob sv (vwOf now L).first its lo)
    (hcs : (vwOf now L).slots = its.map (·.cs)) (hi : Inv now L) (ea : o.attr = (a : Int)) (ha : a < 4) (ec : o.cls = (c : Int)) (hc : c < 3) (s0 : fst1 now a ≤ o.slot) (s1 : o.slot ≤ now + 5) (hn : -12 ≤ nn ∧ nn ≤ 12)
    (hK : ∀ w' its', VP w' fob fv sob sv (vwOf now (L ++ [⟨a, o.slot, c, nn⟩])).first its' lo → (vwOf now (L ++ [⟨a, o.slot, c, nn⟩])).slots = its'.map (·.cs) → Kp (fun q => ∃ x ∈ its, q = x.rb) w w' → K (.tuple #[]) w') :
    cl Try.prog 27 #[.agg #[.bool true, I now, fv, sv], .agg o.cells.toArray, I nn] K w := by
  obtain ⟨hil, hrows⟩ := its_row hcs
  have hai : a < its.length := by omega
  have haf : a < (vwOf now L).first.length := by simp [vwOf]; omega
  have hdw : (pa a).dwell = dw a := rfl
  have hb := pa_bd a
  have n0 := hi.n0
  have n1 := hi.n1
  have hrl : (rlen a : Int) = 6 + 2 * (dw a - 1) := by unfold rlen; omega
  have hrl1 := rlen_le a
  have hf1 : fst1 now a = now - (dw a - 1) := rfl
  have hlen : its[a].cs.length = rlen a := by rw [hrows a hai]; unfold rowOf; rw [rowTo_length]
  obtain ⟨kind, attr, s, to_, cls, n⟩ := o
  dsimp only at ea ec s0 s1 hK ⊢
  subst ea ec
  -- the place of the slot
  obtain ⟨i, hi'⟩ : ∃ i : Nat, s = fst1 now a + (i : Nat) := ⟨(s - fst1 now a).toNat, by omega⟩
  have hir : (i : Int) + (dw a - 1) < rlen a := by omega
  apply c27
  unfold s27_p7
  refine nw_r fun w1 r1 hb1 hz1 => ?_
  replace r1 : Row w1 w.heap.size 43 [.bool true, I now, fv, sv] := r1
  refine nw_r fun w2 r2 hb2 hz2 => ?_
  replace r2 : Row w2 w1.heap.size 34 [I kind, I a, I s, I to_, I c, I n] := r2
  replace r1 := hb2.row' r1
  have k2 := hb1.trans hb2
  have hV2 := hV.kp k2
  generalize w.heap.size = b3 at *
  generalize w1.heap.size = b4 at *
  unfold s27_p6 s27_p6_d
  simp only [e_fd, e_nck, e_pkt, e_pkf, e_gdtt, e_gdtf, e_gdft, e_gdff, e_ift, e_iff, e_not, e_ln, e_lnT, e_cp, e_cvi, e_ex20, e_ex21, e_ex30, e_ex31, e_ex32, e_add, e_sub, e_mul, e_quo, e_rem, e_and, e_or, e_xor, e_shl, e_shr, e_eql, e_neq, e_lss, e_leq, e_gtr, e_geq, e_beq, e_bne, e_peq1, e_peq2, e_pne1, e_pne2, e_zeq1, e_zeq2, e_zne1, e_zne2, e_feq1, e_fne1, e_feq2, e_fne2, e_seq, e_sne, e_ta1, e_ta2, Nat.zero_add, Nat.add_zero, Bool.not_true, Bool.not_false]
  refine ld1_r r2.drw rfl ?_
  refine ld1_r r1.drw rfl ?_
  refine ld1_r r2.drw rfl ?_
  refine ix1 (g := fun n : Int => I n) (fun _ => rfl) (hV2.kp kp_drw).f haf fun b l _ hr hg => ?_
  rw [vw_first haf] at hg
  refine ld1_r hr hg ?_
  simp only [e_fd, e_nck, e_pkt, e_pkf, e_gdtt, e_gdtf, e_gdft, e_gdff, e_ift, e_iff, e_not, e_ln, e_lnT, e_cp, e_cvi, e_ex20, e_ex21, e_ex30, e_ex31, e_ex32, e_add, e_sub, e_mul, e_quo, e_rem, e_and, e_or, e_xor, e_shl, e_shr, e_eql, e_neq, e_lss, e_leq, e_gtr, e_geq, e_beq, e_bne, e_peq1, e_peq2, e_pne1, e_pne2, e_zeq1, e_zeq2, e_zne1, e_zne2, e_feq1, e_fne1, e_feq2, e_fne2, e_seq, e_sne, e_ta1, e_ta2, Nat.zero_add, Nat.add_zero, Bool.not_true, Bool.not_false]
  rw [wrap64_id (by omega) (by omega), show s - fst1 now a = ((i : Nat) : Int) by omega]
  unfold s27_p5 s27_p5_d
  have hkd : Kp (fun _ => False) w2 (drw (drw w2)) := kp_drw.trans kp_drw
  have hVd := hV2.kp hkd
  have r1d := hkd.row' r1
  have r2d := hkd.row' r2
  generalize drw (drw w2) = wd at *
  have hrow := hVd.r _ (List.getElem_mem hai)
  have hlt : i < its[a].cs.length := by omega
  have ei : its[a].cs[i] = ctrOf L a s := by
    have : (rowOf now L a)[i]? = some (ctrOf L a s) := by
      unfold rowOf rowTo
      rw [List.getElem?_map, List.getElem?_range (by omega), hi']; rfl
    rw [← hrows a hai, List.getElem?_eq_getElem hlt] at this
    simpa using this
  simp only [e_fd, e_nck, e_pkt, e_pkf, e_gdtt, e_gdtf, e_gdft, e_gdff, e_ift, e_iff, e_not, e_ln, e_lnT, e_cp, e_cvi, e_ex20, e_ex21, e_ex30, e_ex31, e_ex32, e_add, e_sub, e_mul, e_quo, e_rem, e_and, e_or, e_xor, e_shl, e_shr, e_eql, e_neq, e_lss, e_leq, e_gtr, e_geq, e_beq, e_bne, e_peq1, e_peq2, e_pne1, e_pne2, e_zeq1, e_zeq2, e_zne1, e_zne2, e_feq1, e_fne1, e_feq2, e_fne2, e_seq, e_sne, e_ta1, e_ta2, Nat.zero_add, Nat.add_zero, Bool.not_true, Bool.not_false]
  refine ld1_r r1d rfl ?_
  refine ld1_r r2d rfl ?_
  refine ix1 (g := It.rv) (fun _ => rfl) hVd.s hai fun b l _ hr hg => ?_
  refine ld1_r hr hg ?_
  refine ld1_r r2d rfl ?_
  refine hrow.ix Ctr.cells_length hlt fun b l hob hr hg _ _ => ?_
  have hob' : its[a].rb = b := by simpa using hob
  subst hob'
  simp only [e_fd, e_nck, e_pkt, e_pkf, e_gdtt, e_gdtf, e_gdft, e_gdff, e_ift, e_iff, e_not, e_ln, e_lnT, e_cp, e_cvi, e_ex20, e_ex21, e_ex30, e_ex31, e_ex32, e_add, e_sub, e_mul, e_quo, e_rem, e_and, e_or, e_xor, e_shl, e_shr, e_eql, e_neq, e_lss, e_leq, e_gtr, e_geq, e_beq, e_bne, e_peq1, e_peq2, e_pne1, e_pne2, e_zeq1, e_zeq2, e_zne1, e_zne2, e_feq1, e_fne1, e_feq2, e_fne2, e_seq, e_sne, e_ta1, e_ta2, Nat.zero_add, Nat.add_zero, Bool.not_true, Bool.not_false]
  refine ixa_r hc ?_
  have hadm : l[i * 4 + 1 + c * 1]? = some (I ((ctrOf L a s).adm c)) := by
    have := hg (1 + c) (by omega)
    rw [ei] at this
    rw [Nat.mul_one, Nat.add_assoc, this]
    match c, hc with
    | 0, _ => rfl
    | 1, _ => rfl
    | 2, _ => rfl
  refine ld1_r hr hadm ?_
  have hok := ctrOf_ok hi a s
  have hq := hb.2.2.2.2 c
  have hadc := hok.ad c hc
  simp only [e_fd, e_nck, e_pkt, e_pkf, e_gdtt, e_gdtf, e_gdft, e_gdff, e_ift, e_iff, e_not, e_ln, e_lnT, e_cp, e_cvi, e_ex20, e_ex21, e_ex30, e_ex31, e_ex32, e_add, e_sub, e_mul, e_quo, e_rem, e_and, e_or, e_xor, e_shl, e_shr, e_eql, e_neq, e_lss, e_leq, e_gtr, e_geq, e_beq, e_bne, e_peq1, e_peq2, e_pne1, e_pne2, e_zeq1, e_zeq2, e_zne1, e_zne2, e_feq1, e_fne1, e_feq2, e_fne2, e_seq, e_sne, e_ta1, e_ta2, Nat.zero_add, Nat.add_zero, Bool.not_true, Bool.not_false]
  rw [wrap64_id (by omega) (by omega)]
  refine hrow.ix Ctr.cells_length hlt fun b l hob hr hg _ _ => ?_
  have hob' : its[a].rb = b := by simpa using hob
  subst hob'
  simp only [e_fd, e_nck, e_pkt, e_pkf, e_gdtt, e_gdtf, e_gdft, e_gdff, e_ift, e_iff, e_not, e_ln, e_lnT, e_cp, e_cvi, e_ex20, e_ex21, e_ex30, e_ex31, e_ex32, e_add, e_sub, e_mul, e_quo, e_rem, e_and, e_or, e_xor, e_shl, e_shr, e_eql, e_neq, e_lss, e_leq, e_gtr, e_geq, e_beq, e_bne, e_peq1, e_peq2, e_pne1, e_pne2, e_zeq1, e_zeq2, e_zne1, e_zne2, e_feq1, e_fne1, e_feq2, e_fne2, e_seq, e_sne, e_ta1, e_ta2, Nat.zero_add, Nat.add_zero, Bool.not_true, Bool.not_false]
  refine ixa_r hc ?_
  rw [Nat.mul_one, Nat.add_assoc]
  refine slSt Ctr.cells_length hrow hlt (j := 1 + c) (by omega) (gk L a s c nn 0 s) ?_ rfl fun w3 hs3 hk3 => ?_
  · rw [ei]
    match c, hc with
    | 0, _ => simp [gk, Ctr.cells, ctrOf, Ctr.adm]
    | 1, _ => simp [gk, Ctr.cells, ctrOf, Ctr.adm]
    | 2, _ => simp [gk, Ctr.cells, ctrOf, Ctr.adm]
  have hs3' : Sl Ctr.cells 4 w3 61 (some its[a].rb) its[a].rv (rowK now L a s c nn 0) := by
    have e : its[a].cs.set i (gk L a s c nn 0 s) = rowK now L a s c nn 0 := by
      rw [hrows a hai]
      unfold rowOf rowTo rowK
      have := map_range_set (m := rlen a) (p := i) (g := fun j => ctrOf L a (fst1 now a + (j : Nat))) (g' := fun j => gk L a s c nn 0 (fst1 now a + (j : Nat))) (fun j hj => by
        unfold gk ctrOf
        have hne : ¬ fst1 now a + (j : Nat) = s := by omega
        simp [hne]; omega)
      rw [← this, hi']
    rw [← e]; exact hs3
  unfold s27_p4
  have hra : ∃ x ∈ its, its[a].rb = x.rb := ⟨_, List.getElem_mem hai, rfl⟩
  refine ⟨fun m l w' => ∃ k : Nat, (k : Int) ≤ dw a ∧ m = (dw a).toNat - k ∧ l = [I nn, ptr b3, ptr b4, I i, I k] ∧ Sl Ctr.cells 4 w' 61 (some its[a].rb) its[a].rv (rowK now L a s c nn k) ∧ Kp (fun q => q = its[a].rb) wd w',
    (dw a).toNat, ⟨0, by omega, by omega, rfl, hs3', hk3⟩, ?_⟩
  rintro m l w4 ⟨k, hk, hm, rfl, hs4, hk4⟩
  rw [s27_p3_Fe]
  unfold s27_p2 s27_p2_d
  have hk4d : Kp (fun q => q = its[a].rb) wd (drw w4) := hk4.trans kp_drw
  obtain ⟨la, hla⟩ := hrow.row rfl
  have r1w := hk4d.row r1d (row_ne r1d hla (by decide))
  have r2w := hk4d.row r2d (row_ne r2d hla (by decide))
  have hVs : Sl it1 1 (drw w4) 67 sob sv its := hVd.s.kp hk4d (fun b hb e => by subst e; exact hVd.s.ne hla (by decide) hb)
  unfold ptr
  simp only [e_fd, e_nck, e_pkt, e_pkf, e_gdtt, e_gdtf, e_gdft, e_gdff, e_ift, e_iff, e_not, e_ln, e_lnT, e_cp, e_cvi, e_ex20, e_ex21, e_ex30, e_ex31, e_ex32, e_add, e_sub, e_mul, e_quo, e_rem, e_and, e_or, e_xor, e_shl, e_shr, e_eql, e_neq, e_lss, e_leq, e_gtr, e_geq, e_beq, e_bne, e_peq1, e_peq2, e_pne1, e_pne2, e_zeq1, e_zeq2, e_zne1, e_zne2, e_feq1, e_fne1, e_feq2, e_fne2, e_seq, e_sne, e_ta1, e_ta2, Nat.zero_add, Nat.add_zero, Bool.not_true, Bool.not_false]
  refine ld1_r r2w rfl ?_
  refine park_ok fun w5 pb hpb rp hk5 => ⟨hk5.below', ?_⟩
  refine fi_r (o := 2) fiK30_2 rfl ⟨hk5.below', ?_⟩
  refine ixs_r ha ⟨hk5.below', ?_⟩
  simp only [e_fd, e_nck, e_pkt, e_pkf, e_gdtt, e_gdtf, e_gdft, e_gdff, e_ift, e_iff, e_not, e_ln, e_lnT, e_cp, e_cvi, e_ex20, e_ex21, e_ex30, e_ex31, e_ex32, e_add, e_sub, e_mul, e_quo, e_rem, e_and, e_or, e_xor, e_shl, e_shr, e_eql, e_neq, e_lss, e_leq, e_gtr, e_geq, e_beq, e_bne, e_peq1, e_peq2, e_pne1, e_pne2, e_zeq1, e_zeq2, e_zne1, e_zne2, e_feq1, e_fne1, e_feq2, e_fne2, e_seq, e_sne, e_ta1, e_ta2, Nat.zero_add, Nat.add_zero, Bool.not_true, Bool.not_false]
  refine ⟨hk5.below', ?_⟩
  have hal : a < parkA.length := ha
  refine ld1_r rp (v := I (dw a)) (by rw [rows_get Att.cells_length parkA a hal 1 (by omega), parkA_at hal]; rfl) ⟨hk5.below', ?_⟩
  have hk5' : Kp (fun q => q = its[a].rb) wd w5 := hk4d.trans hk5.none
  have hs5 : Sl Ctr.cells 4 w5 61 (some its[a].rb) its[a].rv (rowK now L a s c nn k) := (hs4.kp' (kp_drw.trans hk5))
  simp only [e_fd, e_nck, e_pkt, e_pkf, e_gdtt, e_gdtf, e_gdft, e_gdff, e_ift, e_iff, e_not, e_ln, e_lnT, e_cp, e_cvi, e_ex20, e_ex21, e_ex30, e_ex31, e_ex32, e_add, e_sub, e_mul, e_quo, e_rem, e_and, e_or, e_xor, e_shl, e_shr, e_eql, e_neq, e_lss, e_leq, e_gtr, e_geq, e_beq, e_bne, e_peq1, e_peq2, e_pne1, e_pne2, e_zeq1, e_zeq2, e_zne1, e_zne2, e_feq1, e_fne1, e_feq2, e_fne2, e_seq, e_sne, e_ta1, e_ta2, Nat.zero_add, Nat.add_zero, Bool.not_true, Bool.not_false]
  unfold s27_p1
  by_cases hlk : (k : Int) < dw a
  · simp only [hlk, decide_true, e_fd, e_nck, e_pkt, e_pkf, e_gdtt, e_gdtf, e_gdft, e_gdff, e_ift, e_iff, e_not, e_ln, e_lnT, e_cp, e_cvi, e_ex20, e_ex21, e_ex30, e_ex31, e_ex32, e_add, e_sub, e_mul, e_quo, e_rem, e_and, e_or, e_xor, e_shl, e_shr, e_eql, e_neq, e_lss, e_leq, e_gtr, e_geq, e_beq, e_bne, e_peq1, e_peq2, e_pne1, e_pne2, e_zeq1, e_zeq2, e_zne1, e_zne2, e_feq1, e_fne1, e_feq2, e_fne2, e_seq, e_sne, e_ta1, e_ta2, Nat.zero_add, Nat.add_zero, Bool.not_true, Bool.not_false]
    refine ld1_r (hk5.row' r1w) rfl ?_
    refine ld1_r (hk5.row' r2w) rfl ?_
    refine ix1 (g := It.rv) (fun _ => rfl) (hVs.kp' hk5) hai fun b l _ hr hg => ?_
    refine ld1_r hr hg ?_
    try simp only [e_fd, e_nck, e_pkt, e_pkf, e_gdtt, e_gdtf, e_gdft, e_gdff, e_ift, e_iff, e_not, e_ln, e_lnT, e_cp, e_cvi, e_ex20, e_ex21, e_ex30, e_ex31, e_ex32, e_add, e_sub, e_mul, e_quo, e_rem, e_and, e_or, e_xor, e_shl, e_shr, e_eql, e_neq, e_lss, e_leq, e_gtr, e_geq, e_beq, e_bne, e_peq1, e_peq2, e_pne1, e_pne2, e_zeq1, e_zeq2, e_zne1, e_zne2, e_feq1, e_fne1, e_feq2, e_fne2, e_seq, e_sne, e_ta1, e_ta2, Nat.zero_add, Nat.add_zero, Bool.not_true, Bool.not_false]
    rw [wrap64_id (by omega) (by omega), show (i : Int) + (k : Int) = ((i + k : Nat) : Int) by omega]
    have hp : i + k < (rowK now L a s c nn k).length := by rw [rowK_length]; omega
    have ev : fst1 now a + ((i + k : Nat) : Int) = s + k := by omega
    have hoc := ctrOf_ok hi a (s + k)
    have ho0 := hoc.o0
    have ho1 := hoc.o1
    have egk : gk L a s c nn k (s + k) = ⟨ins L a (dw a) (s + k), ent L a (s + k) 0 + (if s + k = s ∧ c = 0 then nn else 0), ent L a (s + k) 1 + (if s + k = s ∧ c = 1 then nn else 0), ent L a (s + k) 2 + (if s + k = s ∧ c = 2 then nn else 0)⟩ := by
      unfold gk; rw [if_neg (by omega), Int.add_zero]
    replace ho0 : 0 ≤ ins L a (dw a) (s + k) := ho0
    replace ho1 : ins L a (dw a) (s + k) ≤ (pa a).cap := ho1
    refine hs5.ix Ctr.cells_length hp fun b l hob hr hg _ _ => ?_
    have hob' : its[a].rb = b := by simpa using hob
    subst hob'
    simp only [e_fd, e_nck, e_pkt, e_pkf, e_gdtt, e_gdtf, e_gdft, e_gdff, e_ift, e_iff, e_not, e_ln, e_lnT, e_cp, e_cvi, e_ex20, e_ex21, e_ex30, e_ex31, e_ex32, e_add, e_sub, e_mul, e_quo, e_rem, e_and, e_or, e_xor, e_shl, e_shr, e_eql, e_neq, e_lss, e_leq, e_gtr, e_geq, e_beq, e_bne, e_peq1, e_peq2, e_pne1, e_pne2, e_zeq1, e_zeq2, e_zne1, e_zne2, e_feq1, e_fne1, e_feq2, e_fne2, e_seq, e_sne, e_ta1, e_ta2, Nat.zero_add, Nat.add_zero, Bool.not_true, Bool.not_false]
    refine ld1_r hr (v := I (ins L a (dw a) (s + k))) ?_ ?_
    · have := hg 0 (by omega)
      rw [rowK_at hp, ev, egk] at this
      exact this
    simp only [e_fd, e_nck, e_pkt, e_pkf, e_gdtt, e_gdtf, e_gdft, e_gdff, e_ift, e_iff, e_not, e_ln, e_lnT, e_cp, e_cvi, e_ex20, e_ex21, e_ex30, e_ex31, e_ex32, e_add, e_sub, e_mul, e_quo, e_rem, e_and, e_or, e_xor, e_shl, e_shr, e_eql, e_neq, e_lss, e_leq, e_gtr, e_geq, e_beq, e_bne, e_peq1, e_peq2, e_pne1, e_pne2, e_zeq1, e_zeq2, e_zne1, e_zne2, e_feq1, e_fne1, e_feq2, e_fne2, e_seq, e_sne, e_ta1, e_ta2, Nat.zero_add, Nat.add_zero, Bool.not_true, Bool.not_false]
    rw [wrap64_id (n := ins L a (dw a) (s + k) + nn) (by omega) (by omega)]
    refine hs5.ix Ctr.cells_length hp fun b l hob hr hg _ _ => ?_
    have hob' : its[a].rb = b := by simpa using hob
    subst hob'
    simp only [e_fd, e_nck, e_pkt, e_pkf, e_gdtt, e_gdtf, e_gdft, e_gdff, e_ift, e_iff, e_not, e_ln, e_lnT, e_cp, e_cvi, e_ex20, e_ex21, e_ex30, e_ex31, e_ex32, e_add, e_sub, e_mul, e_quo, e_rem, e_and, e_or, e_xor, e_shl, e_shr, e_eql, e_neq, e_lss, e_leq, e_gtr, e_geq, e_beq, e_bne, e_peq1, e_peq2, e_pne1, e_pne2, e_zeq1, e_zeq2, e_zne1, e_zne2, e_feq1, e_fne1, e_feq2, e_fne2, e_seq, e_sne, e_ta1, e_ta2, Nat.zero_add, Nat.add_zero, Bool.not_true, Bool.not_false]
    refine slSt Ctr.cells_length hs5 hp (j := 0) (by omega) (gk L a s c nn (k + 1 : Nat) (s + k)) ?_ rfl fun w6 hs6 hk6 => ?_
    · rw [rowK_at hp, ev, egk]
      unfold gk
      rw [if_pos (by omega)]
      rfl
    rw [wrap64_id (by omega) (by omega)]
    refine ⟨(dw a).toNat - (k + 1), by omega, k + 1, by omega, rfl, by simp [ptr], ?_, hk5'.trans hk6⟩
    have e : (rowK now L a s c nn k).set (i + k) (gk L a s c nn (k + 1 : Nat) (s + k)) = rowK now L a s c nn (k + 1 : Nat) := by
      unfold rowK
      have := map_range_set (m := rlen a) (p := i + k) (g := fun j => gk L a s c nn k (fst1 now a + (j : Nat))) (g' := fun j => gk L a s c nn (k + 1 : Nat) (fst1 now a + (j : Nat))) (fun j hj => by
        unfold gk
        have : (if s ≤ fst1 now a + (j : Nat) ∧ fst1 now a + (j : Nat) < s + ((k + 1 : Nat) : Int) then nn else 0) = (if s ≤ fst1 now a + (j : Nat) ∧ fst1 now a + (j : Nat) < s + (k : Int) then nn else 0) := by
          by_cases q : s ≤ fst1 now a + (j : Nat) ∧ fst1 now a + (j : Nat) < s + (k : Int)
          · rw [if_pos q, if_pos (by omega)]
          · rw [if_neg q, if_neg (by omega)]
        rw [this])
      rw [← this, ev]
    rw [← e]; exact hs6
  · simp only [hlk, decide_false, e_fd, e_nck, e_pkt, e_pkf, e_gdtt, e_gdtf, e_gdft, e_gdff, e_ift, e_iff, e_not, e_ln, e_lnT, e_cp, e_cvi, e_ex20, e_ex21, e_ex30, e_ex31, e_ex32, e_add, e_sub, e_mul, e_quo, e_rem, e_and, e_or, e_xor, e_shl, e_shr, e_eql, e_neq, e_lss, e_leq, e_gtr, e_geq, e_beq, e_bne, e_peq1, e_peq2, e_pne1, e_pne2, e_zeq1, e_zeq2, e_zne1, e_zne2, e_feq1, e_fne1, e_feq2, e_fne2, e_seq, e_sne, e_ta1, e_ta2, Nat.zero_add, Nat.add_zero, Bool.not_true, Bool.not_false]
    have ek : (k : Int) = dw a := by omega
    have hs5' := hs5
    rw [ek, rowK_end] at hs5'
    have hVe := hVd.turn hai hs5' hk5'
    refine hK w5 _ hVe (turn_slots hcs ha) ?_
    exact ((k2.trans hkd).none.trans (hk5'.mono fun q _ e => ⟨_, List.getElem_mem hai, e⟩))
end Go.Proofs.Qxb6500897a
