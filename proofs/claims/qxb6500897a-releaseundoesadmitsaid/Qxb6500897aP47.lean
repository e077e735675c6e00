import Derived.Test.Qxb6500897aP46
namespace Go.Proofs.Qxb6500897a
open Go.Sh Go.RowKit
set_option linter.unusedVariables false
set_option linter.unusedSimpArgs false

/-! ### ReleaseUndoesAdmit -/
theorem St.release {W w : World} {d tb : Nat} {now : Int} {ts : List Tab} {L : List Ent} {attr slot cls n : Int} {K : Value → World → Prop} (h : St W w d tb now ts L)
    (hK : ∀ w' v ts', ErrV w' v (mRel now L attr slot cls n) → St W w' d tb now ts' (if mRel now L attr slot cls n = 0 then L ++ [⟨attr.toNat, slot, cls.toNat, -n⟩] else L) → blks ts' = blks ts → Kp (fun k => k ∈ blks ts) w w' → K v w') :
    cl Try.prog 28 #[.pointer (some ⟨d, 0, none⟩), I attr, I slot, I cls, I n] K w := by
  refine Release_ok h.sys fun w' v hv ht hk => ?_
  rw [h.good.relC] at hv
  have hstep := h.good.step ⟨1, attr, slot, 0, cls, n⟩
  have es : stepP now ts ⟨1, attr, slot, 0, cls, n⟩ = ⟨now, relTs now ts attr slot cls n, relC now ts attr slot cls n, 0⟩ := by unfold stepP; rw [if_neg (show ¬ ((1 : Int) = 0) by decide), if_pos rfl]
  have eL : stepL now L ⟨1, attr, slot, 0, cls, n⟩ = if mRel now L attr slot cls n = 0 then L ++ [⟨attr.toNat, slot, cls.toNat, -n⟩] else L := by unfold stepL; rw [if_neg (show ¬ ((1 : Int) = 0) by decide), if_pos rfl]
  have hbl := blks_step now ts ⟨1, attr, slot, 0, cls, n⟩
  rw [es, eL] at hstep
  rw [es] at hbl
  refine hK w' v _ hv ⟨ht, hstep, h.hd, ?_, h.bel.trans (hk.below h.bel.size fun k hk' e => ?_)⟩ hbl hk
  · rw [show blks (relTs now ts attr slot cls n) = blks ts from hbl]; exact h.hb
  · have := h.hb k e; omega

theorem St.letIn {W w : World} {d tb : Nat} {now : Int} {ts : List Tab} {L : List Ent} {attr slot cls n : Int} {K : Value → World → Prop} (h : St W w d tb now ts L)
    (hK : ∀ w' v ts', ErrV w' v (mFits now L attr slot cls n) → St W w' d tb now ts' (if mFits now L attr slot cls n = 0 then L ++ [⟨attr.toNat, slot, cls.toNat, n⟩] else L) → blks ts' = blks ts → Kp (fun k => k ∈ blks ts) w w' → K v w') :
    cl Try.prog 29 #[.pointer (some ⟨d, 0, none⟩), I attr, I slot, I cls, I n] K w := by
  refine Admit_ok h.sys fun w' v hv ht hk => ?_
  rw [h.good.fitsC] at hv
  have hstep := h.good.step ⟨0, attr, slot, 0, cls, n⟩
  have es : stepP now ts ⟨0, attr, slot, 0, cls, n⟩ = ⟨now, admitTs now ts attr slot cls n, fitsC now ts attr slot cls n, 0⟩ := by unfold stepP; rw [if_pos rfl]
  have eL : stepL now L ⟨0, attr, slot, 0, cls, n⟩ = if mFits now L attr slot cls n = 0 then L ++ [⟨attr.toNat, slot, cls.toNat, n⟩] else L := by unfold stepL; rw [if_pos rfl]
  have hbl := blks_step now ts ⟨0, attr, slot, 0, cls, n⟩
  rw [es, eL] at hstep
  rw [es] at hbl
  refine hK w' v _ hv ⟨ht, hstep, h.hd, ?_, h.bel.trans (hk.below h.bel.size fun k hk' e => ?_)⟩ hbl hk
  · rw [show blks (admitTs now ts attr slot cls n) = blks ts from hbl]; exact h.hb
  · have := h.hb k e; omega

/-- in and out again: the sums are as they were -/
theorem ins_undo (L : List Ent) (e : Ent) (a : Nat) (dw v : Int) : ins (L ++ [e] ++ [{ e with n := -e.n }]) a dw v = ins L a dw v := by
  rw [ins_append, ins_append]; unfold insT; simp only
  split <;> omega
theorem ent_undo (L : List Ent) (e : Ent) (a : Nat) (v : Int) (c : Nat) : ent (L ++ [e] ++ [{ e with n := -e.n }]) a v c = ent L a v c := by
  rw [ent_append, ent_append]; unfold entT; simp only
  split <;> omega
theorem ctrOf_undo (L : List Ent) (e : Ent) (a : Nat) (v : Int) : ctrOf (L ++ [e] ++ [{ e with n := -e.n }]) a v = ctrOf L a v := by
  unfold ctrOf; rw [ins_undo, ent_undo, ent_undo, ent_undo]
theorem vwOf_undo (now : Int) (L : List Ent) (e : Ent) : vwOf now (L ++ [e] ++ [{ e with n := -e.n }]) = vwOf now L := by
  unfold vwOf rowOf rowTo
  simp only [ctrOf_undo]
theorem mFits_undo (now : Int) (L : List Ent) (e : Ent) (attr slot cls n : Int) : mFits now (L ++ [e] ++ [{ e with n := -e.n }]) attr slot cls n = mFits now L attr slot cls n := by
  unfold mFits fitM
  simp only [ins_undo, ent_undo]

theorem chkP1_iff {now attr slot cls n : Int} : chkP now attr slot cls n 1 = 0 ↔ 0 ≤ attr ∧ attr < 4 ∧ 0 ≤ cls ∧ cls < 3 ∧ 1 ≤ n ∧ now - (dw attr.toNat - 1) ≤ slot ∧ slot < now + 6 := by
  constructor
  · intro h
    have := chkP_ok h
    simp at this
    omega
  · intro h
    unfold chkP
    rw [if_neg (by omega), if_neg (by omega), if_neg (by omega), if_neg (by simp; omega)]

section
variable {W w0 w : World} {d tb b : Nat} {now : Int} {ts : List Tab} {L L' : List Ent} {o : Op} {K : Value → World → Prop} {B1 : List Value → World → Prop} {v ln ii : Value}
  {fob : Option Nat} {fv : Value} {sob : Option Nat} {sv : Value} {its : List It} {lo vb : Nat}

theorem rel_same (h : St W w0 d tb now ts L') (rv : Row w0 vb 43 [.bool true, I now, fv, sv]) (hV : VP w0 fob fv sob sv (vwOf now L').first its lo) (hcs : (vwOf now L').slots = its.map (·.cs)) (hw : Kp (fun _ => False) w0 w)
    (hK : ∀ w', St W w' d tb now ts L' → s6_p2 K B1 (ptr d) v ln ii w') : s6_p4 K B1 (ptr d) (ptr vb) v ln ii w := by
  have hwd : Kp (fun _ => False) w0 (drw w) := hw.trans kp_drw
  unfold s6_p4 s6_p4_d
  refine ldn_r (hwd.row' rv) (Nat.le_of_ble_eq_true rfl) ?_
  refine look_ok (h.kp hwd) fun w4 val4 hv4 hk4 => ⟨hk4.below', ?_⟩
  refine same_vw (L := L') (now := now) ⟨fob, fv, sob, sv, its, rfl, (hV.kp hwd).kp hk4, hcs⟩ hv4 fun w5 hk5 => ?_
  simp only [e_fd, e_nck, e_pkt, e_pkf, e_gdtt, e_gdtf, e_gdft, e_gdff, e_ift, e_iff, e_not, e_ln, e_lnT, e_cp, e_cvi, e_ex20, e_ex21, e_ex30, e_ex31, e_ex32, e_add, e_sub, e_mul, e_quo, e_rem, e_and, e_or, e_xor, e_shl, e_shr, e_eql, e_neq, e_lss, e_leq, e_gtr, e_geq, e_beq, e_bne, e_peq1, e_peq2, e_pne1, e_pne2, e_zeq1, e_zeq2, e_zne1, e_zne2, e_feq1, e_fne1, e_feq2, e_fne2, e_seq, e_sne, e_ta1, e_ta2, Nat.zero_add, Nat.add_zero, Bool.not_true, Bool.not_false, Bool.not_true]
  unfold s6_p3
  simp only [e_fd, e_nck, e_pkt, e_pkf, e_gdtt, e_gdtf, e_gdft, e_gdff, e_ift, e_iff, e_not, e_ln, e_lnT, e_cp, e_cvi, e_ex20, e_ex21, e_ex30, e_ex31, e_ex32, e_add, e_sub, e_mul, e_quo, e_rem, e_and, e_or, e_xor, e_shl, e_shr, e_eql, e_neq, e_lss, e_leq, e_gtr, e_geq, e_beq, e_bne, e_peq1, e_peq2, e_pne1, e_pne2, e_zeq1, e_zeq2, e_zne1, e_zne2, e_feq1, e_fne1, e_feq2, e_fne2, e_seq, e_sne, e_ta1, e_ta2, Nat.zero_add, Nat.add_zero, Bool.not_true, Bool.not_false]
  exact hK _ (h.kp ((hwd.trans hk4).trans hk5))

/-- the verdict on a release -/
theorem rel_end {c9 : Nat} {kept : Bool} {cc : Ctr} (h : St W w0 d tb now ts L') (rv : Row w0 vb 43 [.bool true, I now, fv, sv]) (hV : VP w0 fob fv sob sv (vwOf now L).first its lo) (hcs : (vwOf now L).slots = its.map (·.cs)) (hr : Row w0 b 34 o.cells) (hin : Inv now L)
    (rc : Row w0 c9 61 cc.cells) (hkept : kept = true ↔ chkP now o.attr o.slot o.cls o.n 1 = 0) (hcc : kept = true → cc = ctrOf L o.attr.toNat o.slot)
    (hlo : W.heap.size ≤ lo) (hlt : ∀ k, k = d ∨ k = tb ∨ k ∈ blks ts → k < lo)
    (hL' : L' = if mRel now L o.attr o.slot o.cls o.n = 0 then L ++ [⟨o.attr.toNat, o.slot, o.cls.toNat, -o.n⟩] else L) (hw : Kp (fun _ => False) w0 w)
    (hK : ∀ w', St W w' d tb now ts L' → s6_p2 K B1 (ptr d) v ln ii w') : s6_p9 K B1 (ptr d) (ptr b) (ptr vb) (I (mRel now L o.attr o.slot o.cls o.n)) (ptr c9) (.bool kept) v ln ii w := by
  unfold s6_p9
  simp only [e_fd, e_nck, e_pkt, e_pkf, e_gdtt, e_gdtf, e_gdft, e_gdff, e_ift, e_iff, e_not, e_ln, e_lnT, e_cp, e_cvi, e_ex20, e_ex21, e_ex30, e_ex31, e_ex32, e_add, e_sub, e_mul, e_quo, e_rem, e_and, e_or, e_xor, e_shl, e_shr, e_eql, e_neq, e_lss, e_leq, e_gtr, e_geq, e_beq, e_bne, e_peq1, e_peq2, e_pne1, e_pne2, e_zeq1, e_zeq2, e_zne1, e_zne2, e_feq1, e_fne1, e_feq2, e_fne2, e_seq, e_sne, e_ta1, e_ta2, Nat.zero_add, Nat.add_zero, Bool.not_true, Bool.not_false]
  unfold s6_p8
  cases kept with
  | false =>
    simp only [Bool.not_false, e_fd, e_nck, e_pkt, e_pkf, e_gdtt, e_gdtf, e_gdft, e_gdff, e_ift, e_iff, e_not, e_ln, e_lnT, e_cp, e_cvi, e_ex20, e_ex21, e_ex30, e_ex31, e_ex32, e_add, e_sub, e_mul, e_quo, e_rem, e_and, e_or, e_xor, e_shl, e_shr, e_eql, e_neq, e_lss, e_leq, e_gtr, e_geq, e_beq, e_bne, e_peq1, e_peq2, e_pne1, e_pne2, e_zeq1, e_zeq2, e_zne1, e_zne2, e_feq1, e_fne1, e_feq2, e_fne2, e_seq, e_sne, e_ta1, e_ta2, Nat.zero_add, Nat.add_zero, Bool.not_true, Bool.not_false]
    have hck : ¬ chkP now o.attr o.slot o.cls o.n 1 = 0 := fun e => absurd (hkept.2 e) (by simp)
    have em : mRel now L o.attr o.slot o.cls o.n = chkP now o.attr o.slot o.cls o.n 1 := by unfold mRel; rw [if_neg hck]
    have e0 : (mRel now L o.attr o.slot o.cls o.n == 0) = false := by rw [em]; simpa using hck
    rw [if_neg (by rw [em]; exact hck)] at hL'
    unfold s6_p5
    simp only [e0, e_fd, e_nck, e_pkt, e_pkf, e_gdtt, e_gdtf, e_gdft, e_gdff, e_ift, e_iff, e_not, e_ln, e_lnT, e_cp, e_cvi, e_ex20, e_ex21, e_ex30, e_ex31, e_ex32, e_add, e_sub, e_mul, e_quo, e_rem, e_and, e_or, e_xor, e_shl, e_shr, e_eql, e_neq, e_lss, e_leq, e_gtr, e_geq, e_beq, e_bne, e_peq1, e_peq2, e_pne1, e_pne2, e_zeq1, e_zeq2, e_zne1, e_zne2, e_feq1, e_fne1, e_feq2, e_fne2, e_seq, e_sne, e_ta1, e_ta2, Nat.zero_add, Nat.add_zero, Bool.not_true, Bool.not_false]
    rw [← hL'] at hV hcs
    exact rel_same h rv hV hcs hw hK
  | true =>
    simp only [Bool.not_true, e_fd, e_nck, e_pkt, e_pkf, e_gdtt, e_gdtf, e_gdft, e_gdff, e_ift, e_iff, e_not, e_ln, e_lnT, e_cp, e_cvi, e_ex20, e_ex21, e_ex30, e_ex31, e_ex32, e_add, e_sub, e_mul, e_quo, e_rem, e_and, e_or, e_xor, e_shl, e_shr, e_eql, e_neq, e_lss, e_leq, e_gtr, e_geq, e_beq, e_bne, e_peq1, e_peq2, e_pne1, e_pne2, e_zeq1, e_zeq2, e_zne1, e_zne2, e_feq1, e_fne1, e_feq2, e_fne2, e_seq, e_sne, e_ta1, e_ta2, Nat.zero_add, Nat.add_zero, Bool.not_true, Bool.not_false]
    have hck := hkept.1 rfl
    have hk := chkP1_iff.1 hck
    have hcc := hcc rfl
    subst hcc
    have em : mRel now L o.attr o.slot o.cls o.n = if ent L o.attr.toNat o.slot o.cls.toNat < o.n then 7 else 0 := by unfold mRel; rw [if_pos hck]
    obtain ⟨c, hc⟩ : ∃ c : Nat, o.cls = (c : Int) := ⟨o.cls.toNat, by omega⟩
    have hc3 : c < 3 := by omega
    have ecn : o.cls.toNat = c := by omega
    rw [ecn] at em hL'
    have hwd : Kp (fun _ => False) w0 (drw w) := hw.trans kp_drw
    have hecls : o.cells[4]? = some (I c) := by show some (I o.cls) = _; rw [hc]
    unfold s6_p7 s6_p7_d ptr
    simp only [e_fd, e_nck, e_pkt, e_pkf, e_gdtt, e_gdtf, e_gdft, e_gdff, e_ift, e_iff, e_not, e_ln, e_lnT, e_cp, e_cvi, e_ex20, e_ex21, e_ex30, e_ex31, e_ex32, e_add, e_sub, e_mul, e_quo, e_rem, e_and, e_or, e_xor, e_shl, e_shr, e_eql, e_neq, e_lss, e_leq, e_gtr, e_geq, e_beq, e_bne, e_peq1, e_peq2, e_pne1, e_pne2, e_zeq1, e_zeq2, e_zne1, e_zne2, e_feq1, e_fne1, e_feq2, e_fne2, e_seq, e_sne, e_ta1, e_ta2, Nat.zero_add, Nat.add_zero, Bool.not_true, Bool.not_false]
    refine ld1_r (hwd.row' hr) rfl ?_
    refine ld1_r (hwd.row' hr) hecls ?_
    refine ixa_r hc3 ?_
    refine ld1_r (hwd.row' rc) (v := I (ent L o.attr.toNat o.slot c)) (by
      match c, hc3 with
      | 0, _ => rfl
      | 1, _ => rfl
      | 2, _ => rfl) ?_
    simp only [e_fd, e_nck, e_pkt, e_pkf, e_gdtt, e_gdtf, e_gdft, e_gdff, e_ift, e_iff, e_not, e_ln, e_lnT, e_cp, e_cvi, e_ex20, e_ex21, e_ex30, e_ex31, e_ex32, e_add, e_sub, e_mul, e_quo, e_rem, e_and, e_or, e_xor, e_shl, e_shr, e_eql, e_neq, e_lss, e_leq, e_gtr, e_geq, e_beq, e_bne, e_peq1, e_peq2, e_pne1, e_pne2, e_zeq1, e_zeq2, e_zne1, e_zne2, e_feq1, e_fne1, e_feq2, e_fne2, e_seq, e_sne, e_ta1, e_ta2, Nat.zero_add, Nat.add_zero, Bool.not_true, Bool.not_false]
    unfold s6_p6
    by_cases hgt : ent L o.attr.toNat o.slot c < o.n
    · rw [if_pos hgt] at em
      rw [em] at hL' ⊢
      simp only [hgt, decide_true, e_fd, e_nck, e_pkt, e_pkf, e_gdtt, e_gdtf, e_gdft, e_gdff, e_ift, e_iff, e_not, e_ln, e_lnT, e_cp, e_cvi, e_ex20, e_ex21, e_ex30, e_ex31, e_ex32, e_add, e_sub, e_mul, e_quo, e_rem, e_and, e_or, e_xor, e_shl, e_shr, e_eql, e_neq, e_lss, e_leq, e_gtr, e_geq, e_beq, e_bne, e_peq1, e_peq2, e_pne1, e_pne2, e_zeq1, e_zeq2, e_zne1, e_zne2, e_feq1, e_fne1, e_feq2, e_fne2, e_seq, e_sne, e_ta1, e_ta2, Nat.zero_add, Nat.add_zero, Bool.not_true, Bool.not_false, show ((7 : Int) != 7) = false from rfl]
      rw [if_neg (by decide)] at hL'
      rw [← hL'] at hV hcs
      exact rel_same h rv hV hcs hwd hK
    · rw [if_neg hgt] at em
      rw [em] at hL' ⊢
      simp only [hgt, decide_false, e_fd, e_nck, e_pkt, e_pkf, e_gdtt, e_gdtf, e_gdft, e_gdff, e_ift, e_iff, e_not, e_ln, e_lnT, e_cp, e_cvi, e_ex20, e_ex21, e_ex30, e_ex31, e_ex32, e_add, e_sub, e_mul, e_quo, e_rem, e_and, e_or, e_xor, e_shl, e_shr, e_eql, e_neq, e_lss, e_leq, e_gtr, e_geq, e_beq, e_bne, e_peq1, e_peq2, e_pne1, e_pne2, e_zeq1, e_zeq2, e_zne1, e_zne2, e_feq1, e_fne1, e_feq2, e_fne2, e_seq, e_sne, e_ta1, e_ta2, Nat.zero_add, Nat.add_zero, Bool.not_true, Bool.not_false, show ((0 : Int) != 0) = false from rfl]
      rw [if_pos rfl] at hL'
      have hrok := mRel_ok (L := L) (now := now) (attr := o.attr) (slot := o.slot) (cls := o.cls) (n := o.n) (by unfold mRel; rw [if_pos hck, ecn, if_neg hgt]) hin
      have hb := pa_bd o.attr.toNat
      have hdw : (pa o.attr.toNat).dwell = dw o.attr.toNat := rfl
      refine ldn_r (hwd.row' rv) (Nat.le_of_ble_eq_true rfl) ?_
      refine ldn_r (hwd.row' hr) (Nat.le_of_ble_eq_true rfl) ?_
      try simp only [e_fd, e_nck, e_pkt, e_pkf, e_gdtt, e_gdtf, e_gdft, e_gdff, e_ift, e_iff, e_not, e_ln, e_lnT, e_cp, e_cvi, e_ex20, e_ex21, e_ex30, e_ex31, e_ex32, e_add, e_sub, e_mul, e_quo, e_rem, e_and, e_or, e_xor, e_shl, e_shr, e_eql, e_neq, e_lss, e_leq, e_gtr, e_geq, e_beq, e_bne, e_peq1, e_peq2, e_pne1, e_pne2, e_zeq1, e_zeq2, e_zne1, e_zne2, e_feq1, e_fne1, e_feq2, e_fne2, e_seq, e_sne, e_ta1, e_ta2, Nat.zero_add, Nat.add_zero, Bool.not_true, Bool.not_false]
      refine ld1_r (hwd.row' hr) rfl ?_
      rw [e_neg, wrap64_id (by omega) (by omega), show (0 : Int) - o.n = -o.n by omega]
      refine book_ok (a := o.attr.toNat) (c := c) (o := o) (nn := -o.n) (hV.kp hwd) hcs hin (by omega) (by omega) hc hc3 (by unfold fst1; omega) (by omega) (by omega) fun w1 its1 hV1 hcs1 hk1 => ?_
      rw [← hL'] at hV1 hcs1
      have hk1' : ∀ k, (∃ x ∈ its, k = x.rb) → W.heap.size ≤ k ∧ k ≠ d ∧ k ≠ tb ∧ k ∉ blks ts := by
        rintro k ⟨x, hx, rfl⟩
        have := hV.rl x hx
        refine ⟨by omega, fun e => ?_, fun e => ?_, fun e => ?_⟩
        · have := hlt _ (.inl e); omega
        · have := hlt _ (.inr (.inl e)); omega
        · have := hlt _ (.inr (.inr e)); omega
      have h1 := (h.kp hwd).kpS hk1 hk1'
      have rv1 : Row w1 vb 43 [.bool true, I now, fv, sv] := hk1.row (hwd.row' rv) (by
        rintro ⟨x, hx, e⟩
        obtain ⟨l, hl⟩ := ((hV.kp hwd).r x hx).row rfl
        exact row_ne (hwd.row' rv) hl (by decide) e)
      exact rel_same h1 rv1 hV1 hcs1 (Kp.refl _ _) hK
end
end Go.Proofs.Qxb6500897a
