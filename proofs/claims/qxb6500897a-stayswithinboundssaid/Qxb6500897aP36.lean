import Derived.Test.Qxb6500897aP35
namespace Go.Proofs.Qxb6500897a
open Go.Sh Go.RowKit
set_option linter.unusedVariables false
set_option linter.unusedSimpArgs false

theorem ix1 {α : Type} {f : α → List Value} {g : α → Value} (hf : ∀ x, f x = [g x]) {w : World} {e : TypeId} {ob : Option Nat} {v : Value} {xs : List α} {K : Value → World → Prop} (h : Sl f 1 w e ob v xs) {i : Nat} (hi : i < xs.length)
    (hK : ∀ b l, ob = some b → Row w b e l → l[i]? = some (g xs[i]) → K (.pointer (some ⟨b, i, none⟩)) w) : ixs 1 v (I i) K w := by
  refine h.ix (fun x => by rw [hf]; rfl) hi fun b l ho hr hg _ _ => ?_
  rw [Nat.mul_one]
  refine hK b l ho hr ?_
  have := hg 0 (by omega)
  rw [hf, Nat.mul_one] at this
  exact this

set_option maxRecDepth 100000 in
theorem ctr_flat (c e : Ctr) : flatH Try.prog c.cells e.cells (Try.prog.fieldsOf 61).toList = some [(.i64, c.occ, e.occ), (.i64, c.a0, e.a0), (.i64, c.a1, e.a1), (.i64, c.a2, e.a2)] := by kernel_rfl
set_option maxRecDepth 100000 in
theorem ctr_g : Try.prog.eqGuardType Try.prog.depth 61 = false := by kernel_rfl
set_option maxRecDepth 100000 in
theorem ctr_u : Try.prog.underlying 61 = some (.struct (Try.prog.fieldsOf 61)) := by kernel_rfl
set_option maxRecDepth 100000 in
theorem ctr_h : Try.prog.stoodInHeld 61 = false := by kernel_rfl

set_option maxRecDepth 100000 in
theorem ctr_neq {c : Ctr} {x y : Operand} {K : Value → World → Prop} {w : World} (hK : K (.bool false) w) : bor Try.prog .neq 61 x y (.agg c.cells.toArray) (.agg c.cells.toArray) K w := by
  have e : (!([((IntKind.i64, c.occ, c.occ) : IntKind × Int × Int), (.i64, c.a0, c.a0), (.i64, c.a1, c.a1), (.i64, c.a2, c.a2)].all fun q => q.2.1 == q.2.2)) = false := by simp
  exact bor_neq_flatH (P := Try.prog) (t := 61) (x := x) (y := y) (K := K) (w := w) (xs := c.cells) (ys := c.cells) (ps := [(.i64, c.occ, c.occ), (.i64, c.a0, c.a0), (.i64, c.a1, c.a1), (.i64, c.a2, c.a2)]) ctr_g ctr_u ctr_h (ctr_flat c c) (by rw [e]; exact hK)


section
variable {w : World} {K : Value → World → Prop} {B1 : List Value → World → Prop} {now : Int} {fs : List Int} {b2 b3 lo1 lo2 : Nat}
  {f1 f2 : Option Nat} {fv1 fv2 : Value} {s1 s2 : Option Nat} {sv1 sv2 : Value} {i1s i2s : List It}

/-- same: one row -/
theorem same_row {w0 : World} {a : Nat} {an : Value} (r1 : Row w0 b2 43 [.bool true, I now, fv1, sv1]) (r2 : Row w0 b3 43 [.bool true, I now, fv2, sv2]) (h1 : VP w0 f1 fv1 s1 sv1 fs i1s lo1) (h2 : VP w0 f2 fv2 s2 sv2 fs i2s lo2)
    (hl : i1s.map (·.cs) = i2s.map (·.cs)) (ha : a < i1s.length) (hcl : i1s[a].cs.length ≤ 1000) (hw : Kp (fun _ => False) w0 w)
    (hK : ∀ w', Kp (fun _ => False) w0 w' → s19_p2 K B1 (ptr b2) (ptr b3) an (I a) w') :
    s19_p8 K B1 (ptr b2) (ptr b3) (I a) an (I a) (I i1s[a].cs.length) (I 0) w := by
  have hlen : i1s.length = i2s.length := by have := congrArg List.length hl; simpa using this
  have ha2 : a < i2s.length := by omega
  have hcs : i1s[a].cs = i2s[a].cs := by
    have h : (i1s.map (·.cs))[a]? = (i2s.map (·.cs))[a]? := by rw [hl]
    rw [List.getElem?_map, List.getElem?_map, List.getElem?_eq_getElem ha, List.getElem?_eq_getElem ha2] at h
    simpa using h
  refine ⟨fun m l w => ∃ i : Nat, i ≤ i1s[a].cs.length ∧ m = i1s[a].cs.length - i ∧ l = [ptr b2, ptr b3, I a, an, I a, I i1s[a].cs.length, I i] ∧ Kp (fun _ => False) w0 w,
    i1s[a].cs.length, ⟨0, by omega, by omega, rfl, hw⟩, ?_⟩
  rintro m l w ⟨i, hi, hm, rfl, hw⟩
  rw [s19_p8_Fe]
  unfold s19_p7
  simp only [e_fd, e_nck, e_pkt, e_pkf, e_gdtt, e_gdtf, e_gdft, e_gdff, e_ift, e_iff, e_not, e_ln, e_lnT, e_cp, e_cvi, e_ex20, e_ex21, e_ex30, e_ex31, e_ex32, e_add, e_sub, e_mul, e_quo, e_rem, e_and, e_or, e_xor, e_shl, e_shr, e_eql, e_neq, e_lss, e_leq, e_gtr, e_geq, e_beq, e_bne, e_peq1, e_peq2, e_pne1, e_pne2, e_zeq1, e_zeq2, e_zne1, e_zne2, e_feq1, e_fne1, e_feq2, e_fne2, e_seq, e_sne, e_ta1, e_ta2, Nat.zero_add, Nat.add_zero, Bool.not_true, Bool.not_false]
  have hwd : Kp (fun _ => False) w0 (drw w) := hw.trans kp_drw
  by_cases hlt : i < i1s[a].cs.length
  · have hlt' : (i : Int) < (i1s[a].cs.length : Int) := by omega
    simp only [hlt', decide_true, e_fd, e_nck, e_pkt, e_pkf, e_gdtt, e_gdtf, e_gdft, e_gdff, e_ift, e_iff, e_not, e_ln, e_lnT, e_cp, e_cvi, e_ex20, e_ex21, e_ex30, e_ex31, e_ex32, e_add, e_sub, e_mul, e_quo, e_rem, e_and, e_or, e_xor, e_shl, e_shr, e_eql, e_neq, e_lss, e_leq, e_gtr, e_geq, e_beq, e_bne, e_peq1, e_peq2, e_pne1, e_pne2, e_zeq1, e_zeq2, e_zne1, e_zne2, e_feq1, e_fne1, e_feq2, e_fne2, e_seq, e_sne, e_ta1, e_ta2, Nat.zero_add, Nat.add_zero, Bool.not_true, Bool.not_false]
    unfold s19_p6 s19_p5 s19_p5_d ptr
    simp only [e_fd, e_nck, e_pkt, e_pkf, e_gdtt, e_gdtf, e_gdft, e_gdff, e_ift, e_iff, e_not, e_ln, e_lnT, e_cp, e_cvi, e_ex20, e_ex21, e_ex30, e_ex31, e_ex32, e_add, e_sub, e_mul, e_quo, e_rem, e_and, e_or, e_xor, e_shl, e_shr, e_eql, e_neq, e_lss, e_leq, e_gtr, e_geq, e_beq, e_bne, e_peq1, e_peq2, e_pne1, e_pne2, e_zeq1, e_zeq2, e_zne1, e_zne2, e_feq1, e_fne1, e_feq2, e_fne2, e_seq, e_sne, e_ta1, e_ta2, Nat.zero_add, Nat.add_zero, Bool.not_true, Bool.not_false]
    have hv1 := h1.kp hwd
    have hv2 := h2.kp hwd
    refine ld1_r (hwd.row' r1) rfl ?_
    refine ix1 (g := It.rv) (fun _ => rfl) hv1.s ha fun b l _ hr hg => ?_
    refine ld1_r hr hg ?_
    refine (hv1.r _ (List.getElem_mem ha)).ix Ctr.cells_length hlt fun b l _ hr _ hle hsl => ?_
    refine ldn_r hr hle ?_
    rw [hsl]
    refine ld1_r (hwd.row' r2) rfl ?_
    refine ix1 (g := It.rv) (fun _ => rfl) hv2.s ha2 fun b l _ hr hg => ?_
    refine ld1_r hr hg ?_
    refine (hv2.r _ (List.getElem_mem ha2)).ix Ctr.cells_length (i := i) (by rw [← hcs]; exact hlt) fun b l _ hr _ hle hsl => ?_
    refine ldn_r hr hle ?_
    rw [hsl]
    have ec : i2s[a].cs[i]'(by rw [← hcs]; exact hlt) = i1s[a].cs[i] := by simp only [hcs]
    rw [ec]
    refine ⟨.bool false, fun w' _ => ctr_neq (K := fun v' w'' => v' = .bool false ∧ w'' = w') ⟨rfl, rfl⟩, ?_⟩
    unfold s19_p4 s19_p3
    simp only [e_fd, e_nck, e_pkt, e_pkf, e_gdtt, e_gdtf, e_gdft, e_gdff, e_ift, e_iff, e_not, e_ln, e_lnT, e_cp, e_cvi, e_ex20, e_ex21, e_ex30, e_ex31, e_ex32, e_add, e_sub, e_mul, e_quo, e_rem, e_and, e_or, e_xor, e_shl, e_shr, e_eql, e_neq, e_lss, e_leq, e_gtr, e_geq, e_beq, e_bne, e_peq1, e_peq2, e_pne1, e_pne2, e_zeq1, e_zeq2, e_zne1, e_zne2, e_feq1, e_fne1, e_feq2, e_fne2, e_seq, e_sne, e_ta1, e_ta2, Nat.zero_add, Nat.add_zero, Bool.not_true, Bool.not_false]
    rw [wrap64_id (by omega) (by omega)]
    exact ⟨i1s[a].cs.length - (i + 1), by omega, i + 1, by omega, rfl, by simp [ptr], hwd⟩
  · have hlt' : ¬ (i : Int) < (i1s[a].cs.length : Int) := by omega
    simp only [hlt', decide_false, e_fd, e_nck, e_pkt, e_pkf, e_gdtt, e_gdtf, e_gdft, e_gdff, e_ift, e_iff, e_not, e_ln, e_lnT, e_cp, e_cvi, e_ex20, e_ex21, e_ex30, e_ex31, e_ex32, e_add, e_sub, e_mul, e_quo, e_rem, e_and, e_or, e_xor, e_shl, e_shr, e_eql, e_neq, e_lss, e_leq, e_gtr, e_geq, e_beq, e_bne, e_peq1, e_peq2, e_pne1, e_pne2, e_zeq1, e_zeq2, e_zne1, e_zne2, e_feq1, e_fne1, e_feq2, e_fne2, e_seq, e_sne, e_ta1, e_ta2, Nat.zero_add, Nat.add_zero, Bool.not_true, Bool.not_false]
    exact hK w hw

theorem same_ok {v1 v2 : Value} {vw : Vw} (h1 : ViewAt w v1 vw lo1) (h2 : ViewAt w v2 vw lo2) (hf : vw.first.length = vw.slots.length) (hn : vw.slots.length ≤ 1000) (hr' : ∀ r ∈ vw.slots, r.length ≤ 1000)
    (hK : ∀ w', Kp (fun _ => False) w w' → K (.bool true) w') : cl Try.prog 19 #[v1, v2] K w := by
  obtain ⟨f1, fv1, s1, sv1, i1s, rfl, hV1, hs1⟩ := h1
  obtain ⟨f2, fv2, s2, sv2, i2s, rfl, hV2, hs2⟩ := h2
  have hl : i1s.map (·.cs) = i2s.map (·.cs) := by rw [← hs1, ← hs2]
  have hlen : i1s.length = i2s.length := by have := congrArg List.length hl; simpa using this
  have hl1 : vw.slots.length = i1s.length := by rw [hs1]; simp
  apply c19
  unfold s19_p14
  refine nw_r fun w1 r1 hb1 hz1 => ?_
  refine nw_r fun w2 r2 hb2 hz2 => ?_
  replace r1 : Row w1 w.heap.size 43 [.bool true, I vw.now, fv1, sv1] := r1
  replace r2 : Row w2 w1.heap.size 43 [.bool true, I vw.now, fv2, sv2] := r2
  replace r1 := hb2.row' r1
  have k2 := hb1.trans hb2
  have hV1 := hV1.kp k2
  have hV2 := hV2.kp k2
  simp only [e_fd, e_nck, e_pkt, e_pkf, e_gdtt, e_gdtf, e_gdft, e_gdff, e_ift, e_iff, e_not, e_ln, e_lnT, e_cp, e_cvi, e_ex20, e_ex21, e_ex30, e_ex31, e_ex32, e_add, e_sub, e_mul, e_quo, e_rem, e_and, e_or, e_xor, e_shl, e_shr, e_eql, e_neq, e_lss, e_leq, e_gtr, e_geq, e_beq, e_bne, e_peq1, e_peq2, e_pne1, e_pne2, e_zeq1, e_zeq2, e_zne1, e_zne2, e_feq1, e_fne1, e_feq2, e_fne2, e_seq, e_sne, e_ta1, e_ta2, Nat.zero_add, Nat.add_zero, Bool.not_true, Bool.not_false]
  refine ld1_r r1 rfl ?_
  simp only [e_fd, e_nck, e_pkt, e_pkf, e_gdtt, e_gdtf, e_gdft, e_gdff, e_ift, e_iff, e_not, e_ln, e_lnT, e_cp, e_cvi, e_ex20, e_ex21, e_ex30, e_ex31, e_ex32, e_add, e_sub, e_mul, e_quo, e_rem, e_and, e_or, e_xor, e_shl, e_shr, e_eql, e_neq, e_lss, e_leq, e_gtr, e_geq, e_beq, e_bne, e_peq1, e_peq2, e_pne1, e_pne2, e_zeq1, e_zeq2, e_zne1, e_zne2, e_feq1, e_fne1, e_feq2, e_fne2, e_seq, e_sne, e_ta1, e_ta2, Nat.zero_add, Nat.add_zero, Bool.not_true, Bool.not_false, Bool.not_true]
  refine ld1_r r2 rfl ?_
  simp only [e_fd, e_nck, e_pkt, e_pkf, e_gdtt, e_gdtf, e_gdft, e_gdff, e_ift, e_iff, e_not, e_ln, e_lnT, e_cp, e_cvi, e_ex20, e_ex21, e_ex30, e_ex31, e_ex32, e_add, e_sub, e_mul, e_quo, e_rem, e_and, e_or, e_xor, e_shl, e_shr, e_eql, e_neq, e_lss, e_leq, e_gtr, e_geq, e_beq, e_bne, e_peq1, e_peq2, e_pne1, e_pne2, e_zeq1, e_zeq2, e_zne1, e_zne2, e_feq1, e_fne1, e_feq2, e_fne2, e_seq, e_sne, e_ta1, e_ta2, Nat.zero_add, Nat.add_zero, Bool.not_true, Bool.not_false, Bool.not_true]
  refine ld1_r r1 rfl ?_
  refine ld1_r r2 rfl ?_
  have enn : (vw.now != vw.now) = false := by simp
  simp only [e_fd, e_nck, e_pkt, e_pkf, e_gdtt, e_gdtf, e_gdft, e_gdff, e_ift, e_iff, e_not, e_ln, e_lnT, e_cp, e_cvi, e_ex20, e_ex21, e_ex30, e_ex31, e_ex32, e_add, e_sub, e_mul, e_quo, e_rem, e_and, e_or, e_xor, e_shl, e_shr, e_eql, e_neq, e_lss, e_leq, e_gtr, e_geq, e_beq, e_bne, e_peq1, e_peq2, e_pne1, e_pne2, e_zeq1, e_zeq2, e_zne1, e_zne2, e_feq1, e_fne1, e_feq2, e_fne2, e_seq, e_sne, e_ta1, e_ta2, Nat.zero_add, Nat.add_zero, Bool.not_true, Bool.not_false, enn]
  refine ld1_r r1 rfl ?_
  refine hV1.s.ln ?_
  try simp only [e_fd, e_nck, e_pkt, e_pkf, e_gdtt, e_gdtf, e_gdft, e_gdff, e_ift, e_iff, e_not, e_ln, e_lnT, e_cp, e_cvi, e_ex20, e_ex21, e_ex30, e_ex31, e_ex32, e_add, e_sub, e_mul, e_quo, e_rem, e_and, e_or, e_xor, e_shl, e_shr, e_eql, e_neq, e_lss, e_leq, e_gtr, e_geq, e_beq, e_bne, e_peq1, e_peq2, e_pne1, e_pne2, e_zeq1, e_zeq2, e_zne1, e_zne2, e_feq1, e_fne1, e_feq2, e_fne2, e_seq, e_sne, e_ta1, e_ta2, Nat.zero_add, Nat.add_zero, Bool.not_true, Bool.not_false]
  refine ld1_r r2 rfl ?_
  refine hV2.s.ln ?_
  have ell : ((i1s.length : Int) != (i2s.length : Int)) = false := by rw [hlen]; simp
  simp only [e_fd, e_nck, e_pkt, e_pkf, e_gdtt, e_gdtf, e_gdft, e_gdff, e_ift, e_iff, e_not, e_ln, e_lnT, e_cp, e_cvi, e_ex20, e_ex21, e_ex30, e_ex31, e_ex32, e_add, e_sub, e_mul, e_quo, e_rem, e_and, e_or, e_xor, e_shl, e_shr, e_eql, e_neq, e_lss, e_leq, e_gtr, e_geq, e_beq, e_bne, e_peq1, e_peq2, e_pne1, e_pne2, e_zeq1, e_zeq2, e_zne1, e_zne2, e_feq1, e_fne1, e_feq2, e_fne2, e_seq, e_sne, e_ta1, e_ta2, Nat.zero_add, Nat.add_zero, Bool.not_true, Bool.not_false, ell]
  refine ld1_r r1 rfl ?_
  refine hV1.s.ln ?_
  generalize w.heap.size = b2 at *
  generalize w1.heap.size = b3 at *
  refine ⟨fun m l w' => ∃ a : Nat, a ≤ i1s.length ∧ m = i1s.length - a ∧ l = [ptr b2, ptr b3, I i1s.length, I a] ∧ Kp (fun _ => False) w2 w',
    i1s.length, ⟨0, by omega, by omega, rfl, Kp.refl _ _⟩, ?_⟩
  rintro m l w3 ⟨a, ha, hm, rfl, hw⟩
  rw [s19_p13_Fe]
  unfold s19_p12
  simp only [e_fd, e_nck, e_pkt, e_pkf, e_gdtt, e_gdtf, e_gdft, e_gdff, e_ift, e_iff, e_not, e_ln, e_lnT, e_cp, e_cvi, e_ex20, e_ex21, e_ex30, e_ex31, e_ex32, e_add, e_sub, e_mul, e_quo, e_rem, e_and, e_or, e_xor, e_shl, e_shr, e_eql, e_neq, e_lss, e_leq, e_gtr, e_geq, e_beq, e_bne, e_peq1, e_peq2, e_pne1, e_pne2, e_zeq1, e_zeq2, e_zne1, e_zne2, e_feq1, e_fne1, e_feq2, e_fne2, e_seq, e_sne, e_ta1, e_ta2, Nat.zero_add, Nat.add_zero, Bool.not_true, Bool.not_false]
  have hwd : Kp (fun _ => False) w2 (drw w3) := hw.trans kp_drw
  by_cases hlt : a < i1s.length
  · have hlt' : (a : Int) < (i1s.length : Int) := by omega
    simp only [hlt', decide_true, e_fd, e_nck, e_pkt, e_pkf, e_gdtt, e_gdtf, e_gdft, e_gdff, e_ift, e_iff, e_not, e_ln, e_lnT, e_cp, e_cvi, e_ex20, e_ex21, e_ex30, e_ex31, e_ex32, e_add, e_sub, e_mul, e_quo, e_rem, e_and, e_or, e_xor, e_shl, e_shr, e_eql, e_neq, e_lss, e_leq, e_gtr, e_geq, e_beq, e_bne, e_peq1, e_peq2, e_pne1, e_pne2, e_zeq1, e_zeq2, e_zne1, e_zne2, e_feq1, e_fne1, e_feq2, e_fne2, e_seq, e_sne, e_ta1, e_ta2, Nat.zero_add, Nat.add_zero, Bool.not_true, Bool.not_false]
    unfold s19_p11 s19_p10 s19_p10_d ptr
    simp only [e_fd, e_nck, e_pkt, e_pkf, e_gdtt, e_gdtf, e_gdft, e_gdff, e_ift, e_iff, e_not, e_ln, e_lnT, e_cp, e_cvi, e_ex20, e_ex21, e_ex30, e_ex31, e_ex32, e_add, e_sub, e_mul, e_quo, e_rem, e_and, e_or, e_xor, e_shl, e_shr, e_eql, e_neq, e_lss, e_leq, e_gtr, e_geq, e_beq, e_bne, e_peq1, e_peq2, e_pne1, e_pne2, e_zeq1, e_zeq2, e_zne1, e_zne2, e_feq1, e_fne1, e_feq2, e_fne2, e_seq, e_sne, e_ta1, e_ta2, Nat.zero_add, Nat.add_zero, Bool.not_true, Bool.not_false]
    have hv1 := hV1.kp hwd
    have hv2 := hV2.kp hwd
    have haf : a < vw.first.length := by omega
    have ha2 : a < i2s.length := by omega
    have hcs : i1s[a].cs = i2s[a].cs := by
      have h : (i1s.map (·.cs))[a]? = (i2s.map (·.cs))[a]? := by rw [hl]
      rw [List.getElem?_map, List.getElem?_map, List.getElem?_eq_getElem hlt, List.getElem?_eq_getElem ha2] at h
      simpa using h
    refine ld1_r (hwd.row' r1) rfl ?_
    refine ix1 (g := fun n : Int => I n) (fun _ => rfl) hv1.f haf fun b l _ hr hg => ?_
    refine ld1_r hr hg ?_
    refine ld1_r (hwd.row' r2) rfl ?_
    refine ix1 (g := fun n : Int => I n) (fun _ => rfl) hv2.f haf fun b l _ hr hg => ?_
    refine ld1_r hr hg ?_
    have eff : (vw.first[a] != vw.first[a]) = false := by simp
    simp only [e_fd, e_nck, e_pkt, e_pkf, e_gdtt, e_gdtf, e_gdft, e_gdff, e_ift, e_iff, e_not, e_ln, e_lnT, e_cp, e_cvi, e_ex20, e_ex21, e_ex30, e_ex31, e_ex32, e_add, e_sub, e_mul, e_quo, e_rem, e_and, e_or, e_xor, e_shl, e_shr, e_eql, e_neq, e_lss, e_leq, e_gtr, e_geq, e_beq, e_bne, e_peq1, e_peq2, e_pne1, e_pne2, e_zeq1, e_zeq2, e_zne1, e_zne2, e_feq1, e_fne1, e_feq2, e_fne2, e_seq, e_sne, e_ta1, e_ta2, Nat.zero_add, Nat.add_zero, Bool.not_true, Bool.not_false, eff]
    refine ld1_r (hwd.row' r1) rfl ?_
    refine ix1 (g := It.rv) (fun _ => rfl) hv1.s hlt fun b l _ hr hg => ?_
    try simp only [e_fd, e_nck, e_pkt, e_pkf, e_gdtt, e_gdtf, e_gdft, e_gdff, e_ift, e_iff, e_not, e_ln, e_lnT, e_cp, e_cvi, e_ex20, e_ex21, e_ex30, e_ex31, e_ex32, e_add, e_sub, e_mul, e_quo, e_rem, e_and, e_or, e_xor, e_shl, e_shr, e_eql, e_neq, e_lss, e_leq, e_gtr, e_geq, e_beq, e_bne, e_peq1, e_peq2, e_pne1, e_pne2, e_zeq1, e_zeq2, e_zne1, e_zne2, e_feq1, e_fne1, e_feq2, e_fne2, e_seq, e_sne, e_ta1, e_ta2, Nat.zero_add, Nat.add_zero, Bool.not_true, Bool.not_false]
    refine ld1_r hr hg ?_
    refine (hv1.r _ (List.getElem_mem hlt)).ln ?_
    try simp only [e_fd, e_nck, e_pkt, e_pkf, e_gdtt, e_gdtf, e_gdft, e_gdff, e_ift, e_iff, e_not, e_ln, e_lnT, e_cp, e_cvi, e_ex20, e_ex21, e_ex30, e_ex31, e_ex32, e_add, e_sub, e_mul, e_quo, e_rem, e_and, e_or, e_xor, e_shl, e_shr, e_eql, e_neq, e_lss, e_leq, e_gtr, e_geq, e_beq, e_bne, e_peq1, e_peq2, e_pne1, e_pne2, e_zeq1, e_zeq2, e_zne1, e_zne2, e_feq1, e_fne1, e_feq2, e_fne2, e_seq, e_sne, e_ta1, e_ta2, Nat.zero_add, Nat.add_zero, Bool.not_true, Bool.not_false]
    refine ld1_r (hwd.row' r2) rfl ?_
    refine ix1 (g := It.rv) (fun _ => rfl) hv2.s ha2 fun b l _ hr hg => ?_
    try simp only [e_fd, e_nck, e_pkt, e_pkf, e_gdtt, e_gdtf, e_gdft, e_gdff, e_ift, e_iff, e_not, e_ln, e_lnT, e_cp, e_cvi, e_ex20, e_ex21, e_ex30, e_ex31, e_ex32, e_add, e_sub, e_mul, e_quo, e_rem, e_and, e_or, e_xor, e_shl, e_shr, e_eql, e_neq, e_lss, e_leq, e_gtr, e_geq, e_beq, e_bne, e_peq1, e_peq2, e_pne1, e_pne2, e_zeq1, e_zeq2, e_zne1, e_zne2, e_feq1, e_fne1, e_feq2, e_fne2, e_seq, e_sne, e_ta1, e_ta2, Nat.zero_add, Nat.add_zero, Bool.not_true, Bool.not_false]
    refine ld1_r hr hg ?_
    refine (hv2.r _ (List.getElem_mem ha2)).ln ?_
    have ecc : ((i1s[a].cs.length : Int) != (i2s[a].cs.length : Int)) = false := by rw [hcs]; simp
    simp only [e_fd, e_nck, e_pkt, e_pkf, e_gdtt, e_gdtf, e_gdft, e_gdff, e_ift, e_iff, e_not, e_ln, e_lnT, e_cp, e_cvi, e_ex20, e_ex21, e_ex30, e_ex31, e_ex32, e_add, e_sub, e_mul, e_quo, e_rem, e_and, e_or, e_xor, e_shl, e_shr, e_eql, e_neq, e_lss, e_leq, e_gtr, e_geq, e_beq, e_bne, e_peq1, e_peq2, e_pne1, e_pne2, e_zeq1, e_zeq2, e_zne1, e_zne2, e_feq1, e_fne1, e_feq2, e_fne2, e_seq, e_sne, e_ta1, e_ta2, Nat.zero_add, Nat.add_zero, Bool.not_true, Bool.not_false, ecc]
    unfold s19_p9
    simp only [e_fd, e_nck, e_pkt, e_pkf, e_gdtt, e_gdtf, e_gdft, e_gdff, e_ift, e_iff, e_not, e_ln, e_lnT, e_cp, e_cvi, e_ex20, e_ex21, e_ex30, e_ex31, e_ex32, e_add, e_sub, e_mul, e_quo, e_rem, e_and, e_or, e_xor, e_shl, e_shr, e_eql, e_neq, e_lss, e_leq, e_gtr, e_geq, e_beq, e_bne, e_peq1, e_peq2, e_pne1, e_pne2, e_zeq1, e_zeq2, e_zne1, e_zne2, e_feq1, e_fne1, e_feq2, e_fne2, e_seq, e_sne, e_ta1, e_ta2, Nat.zero_add, Nat.add_zero, Bool.not_true, Bool.not_false]
    refine ld1_r (hwd.row' r1) rfl ?_
    refine ix1 (g := It.rv) (fun _ => rfl) hv1.s hlt fun b l _ hr hg => ?_
    refine ld1_r hr hg ?_
    refine (hv1.r _ (List.getElem_mem hlt)).ln ?_
    have hcl : i1s[a].cs.length ≤ 1000 := hr' _ (by rw [hs1]; exact List.mem_map_of_mem (List.getElem_mem hlt))
    refine same_row r1 r2 hV1 hV2 hl hlt hcl hwd fun w4 hk4 => ?_
    unfold s19_p2
    simp only [e_fd, e_nck, e_pkt, e_pkf, e_gdtt, e_gdtf, e_gdft, e_gdff, e_ift, e_iff, e_not, e_ln, e_lnT, e_cp, e_cvi, e_ex20, e_ex21, e_ex30, e_ex31, e_ex32, e_add, e_sub, e_mul, e_quo, e_rem, e_and, e_or, e_xor, e_shl, e_shr, e_eql, e_neq, e_lss, e_leq, e_gtr, e_geq, e_beq, e_bne, e_peq1, e_peq2, e_pne1, e_pne2, e_zeq1, e_zeq2, e_zne1, e_zne2, e_feq1, e_fne1, e_feq2, e_fne2, e_seq, e_sne, e_ta1, e_ta2, Nat.zero_add, Nat.add_zero, Bool.not_true, Bool.not_false]
    rw [wrap64_id (by omega) (by omega)]
    exact ⟨i1s.length - (a + 1), by omega, a + 1, by omega, rfl, by simp [ptr], hk4⟩
  · have hlt' : ¬ (a : Int) < (i1s.length : Int) := by omega
    simp only [hlt', decide_false, e_fd, e_nck, e_pkt, e_pkf, e_gdtt, e_gdtf, e_gdft, e_gdff, e_ift, e_iff, e_not, e_ln, e_lnT, e_cp, e_cvi, e_ex20, e_ex21, e_ex30, e_ex31, e_ex32, e_add, e_sub, e_mul, e_quo, e_rem, e_and, e_or, e_xor, e_shl, e_shr, e_eql, e_neq, e_lss, e_leq, e_gtr, e_geq, e_beq, e_bne, e_peq1, e_peq2, e_pne1, e_pne2, e_zeq1, e_zeq2, e_zne1, e_zne2, e_feq1, e_fne1, e_feq2, e_fne2, e_seq, e_sne, e_ta1, e_ta2, Nat.zero_add, Nat.add_zero, Bool.not_true, Bool.not_false]
    unfold s19_p1
    exact hK w3 (k2.trans hw)
end
end Go.Proofs.Qxb6500897a
