import Derived.Test.Qxb6500898aV25
namespace Go.Proofs.Qxb6500898a
open Go.Sh Go.RowKit
set_option linter.unusedVariables false
set_option linter.unusedSimpArgs false

/-! ### the model's machine -/
structure Mm (w : World) (mm : Nat) (mwb mrb : Option Nat) (wv rv : Value) (s : Mst) : Prop where
  row : Row w mm 30 [wv, rv, .bool s.failed]
  wk : Sl u1 1 w 5 mwb wv s.work
  rd : Sl u1 1 w 5 mrb rv (s.buf.drop s.off)
  wby : By s.work
  wl : s.work.length ≤ 100000000000
  rby : By s.buf
  rl : s.buf.length ≤ 100000000000
  off : s.off ≤ s.buf.length
abbrev Fr (w0 : World) (a a0 : Option Nat) : Prop := a = a0 ∨ ∃ b, a = some b ∧ w0.heap.size ≤ b
def MStepK (w0 : World) (mm : Nat) (mwb0 mrb0 : Option Nat) (s : Mst) (o : Op) (K : Value → World → Prop) : Prop :=
  ∀ w' mwb' mrb' wv' rv' s' ok v dv' dat, Mm w' mm mwb' mrb' wv' rv' s' → StepR s o s' ok v dat → Bs w' dv' dat → Kp (fun k => k = mm) w0 w' → Fr w0 mwb' mwb0 → Fr w0 mrb' mrb0 → K (.agg #[.bool ok, .int .u64 v, dv']) w'
structure Mc (W w0 : World) (mm : Nat) (mwb0 mrb0 : Option Nat) (o : Op) (dv : Value) (t3 t4 : Nat) (w : World) (mwb mrb : Option Nat) (wv rv : Value) (s : Mst) : Prop where
  m : Mm w mm mwb mrb wv rv s
  kp : Kp (fun k => k = mm) w0 w
  kW : Kp (fun _ => False) W w
  r3 : Row w t3 34 (opc dv o)
  r4 : Row w t4 38 [.bool false, .int .u64 0, .slice none 0 0]
  z3 : w0.heap.size ≤ t3
  z4 : w0.heap.size ≤ t4
  mz : W.heap.size ≤ mm
  zW : W.heap.size ≤ w0.heap.size
  wo : Fr w0 mwb mwb0
  ro : Fr w0 mrb mrb0
section
variable {W w w' w0 w2 : World} {v d t wv rv dv t0 t1 t2 : Value} {ob mwb mrb mwb0 mrb0 : Option Nat} {mm t3 t4 b e m n i k : Nat} {xs ys zs pr da X Y : List Int} {K : Value → World → Prop} {kk : World → Prop} {S S' : Nat → Prop} {L : List Value} {q c z : Int} {little : Bool} {s s' s0 : Mst} {o : Op}
theorem Mm.kp {C : Nat → Prop} (h : Mm w mm mwb mrb wv rv s) (hk : Kp C w w') (h1 : ¬ C mm) (h2 : ∀ b, mwb = some b → ¬ C b) (h3 : ∀ b, mrb = some b → ¬ C b) : Mm w' mm mwb mrb wv rv s :=
  ⟨hk.row h.row h1, h.wk.kp hk h2, h.rd.kp hk h3, h.wby, h.wl, h.rby, h.rl, h.off⟩
theorem Mm.kp' (h : Mm w mm mwb mrb wv rv s) (hk : Kp (fun _ => False) w w') : Mm w' mm mwb mrb wv rv s := h.kp hk (fun q => q) (fun _ _ q => q) (fun _ _ q => q)
theorem Mm.wbs (h : Mm w mm mwb mrb wv rv s) : Bs w wv s.work := sl_bs h.wk h.wby (by have := h.wl; omega)
theorem Mm.rbs (h : Mm w mm mwb mrb wv rv s) : Bs w rv (s.buf.drop s.off) := sl_bs h.rd (h.rby.drop _) (by have := h.rl; rw [List.length_drop]; omega)
theorem sl_nm {l : List Value} (h : Sl u1 1 w 5 ob v xs) (hr : Row w m e l) (he : e ≠ 5) : ∀ b, ob = some b → b ≠ m := fun b hb q => by
  obtain ⟨l', hr'⟩ := h.row hb
  exact row_ne hr' hr he.symm q
theorem Mc.kp' (R : Mc W w0 mm mwb0 mrb0 o dv t3 t4 w mwb mrb wv rv s) (hk : Kp (fun _ => False) w w') : Mc W w0 mm mwb0 mrb0 o dv t3 t4 w' mwb mrb wv rv s :=
  ⟨R.m.kp' hk, R.kp.then hk (fun _ _ q => q.elim), R.kW.trans hk, hk.row' R.r3, hk.row' R.r4, R.z3, R.z4, R.mz, R.zW, R.wo, R.ro⟩
/-- the model's record changes -/
theorem Mc.set (R : Mc W w0 mm mwb0 mrb0 o dv t3 t4 w mwb mrb wv rv s) (hk : Kp (fun k => k = mm) w w') {mwb' mrb' : Option Nat} {wv' rv' : Value} (hm : Mm w' mm mwb' mrb' wv' rv' s') (hw : Fr w0 mwb' mwb0) (hr : Fr w0 mrb' mrb0) : Mc W w0 mm mwb0 mrb0 o dv t3 t4 w' mwb' mrb' wv' rv' s' :=
  ⟨hm, R.kp.trans hk, R.kW.then hk (fun b hb (q : b = mm) => by have := R.mz; omega), hk.row R.r3 (fun (q : t3 = mm) => row_ne R.r3 R.m.row (by decide) q), hk.row R.r4 (fun (q : t4 = mm) => row_ne R.r4 R.m.row (by decide) q), R.z3, R.z4, R.mz, R.zW, hw, hr⟩
/-- the working string is replaced by a new one -/
theorem Mc.work (R : Mc W w0 mm mwb0 mrb0 o dv t3 t4 w mwb mrb wv rv s) (hs : Sl u1 1 w 5 (some b) v ys) (hb : w0.heap.size ≤ b) (hy : By ys) (hl : ys.length ≤ 100000000000) (hK : ∀ w', Mc W w0 mm mwb0 mrb0 o dv t3 t4 w' (some b) mrb v rv { s with work := ys } → Kp (fun k => k = mm) w w' → kk w') : st1 (Pt mm 0) v kk w := by
  refine st1_r R.m.row (show 0 < 3 by decide) (sl_scal hs) fun w1 r1 hk1 hz1 => ?_
  refine hK w1 (R.set hk1 (mwb' := some b) (mrb' := mrb) ⟨r1, hs.kp hk1 (sl_nm hs R.m.row (by decide)), R.m.rd.kp hk1 (sl_nm R.m.rd R.m.row (by decide)), hy, hl, R.m.rby, R.m.rl, R.m.off⟩ (.inr ⟨b, rfl, hb⟩) R.ro) hk1
/-- the answer -/
theorem Mc.fin (R : Mc W w0 mm mwb0 mrb0 o dv t3 t4 w mwb mrb wv rv s') {ok : Bool} {x : Int} {dv' : Value} {dat : List Int} (hK : MStepK w0 mm mwb0 mrb0 s o K) (hst : StepR s o s' ok x dat) (hd : ∀ w', Kp (fun k => k = t4) w w' → Bs w' dv' dat) (hsc : scal dv' = true) :
    stn 3 (Pt t4 0) (.agg #[.bool ok, .int .u64 x, dv']) (fun w => ldn 3 (Pt t4 0) (fun r0 _ => K r0 w) w) w := by
  refine stn_r (cs := [.bool ok, .int .u64 x, dv']) R.r4 rfl (show 0 + 3 ≤ 3 by decide) (by simp [scal] at hsc ⊢; exact hsc) fun w1 r1 hk1 hz1 => ?_
  refine ldn_r r1 (show 0 + 3 ≤ _ by simp) ?_
  exact hK w1 mwb mrb wv rv s' ok x dv' dat (R.m.kp hk1 (fun (e : mm = t4) => row_ne R.m.row R.r4 (by decide) e) (fun b hb (q : b = t4) => sl_nm R.m.wk R.r4 (by decide) b hb q) (fun b hb (q : b = t4) => sl_nm R.m.rd R.r4 (by decide) b hb q)) hst (hd w1 hk1) (R.kp.then hk1 (fun b hb (q : b = _) => by have := R.z4; omega)) R.wo R.ro
theorem Mc.nil (R : Mc W w0 mm mwb0 mrb0 o dv t3 t4 w mwb mrb wv rv s') {ok : Bool} {x : Int} (hK : MStepK w0 mm mwb0 mrb0 s o K) (hst : StepR s o s' ok x []) :
    stn 3 (Pt t4 0) (.agg #[.bool ok, .int .u64 x, .slice none 0 0]) (fun w => ldn 3 (Pt t4 0) (fun r0 _ => K r0 w) w) w := R.fin hK hst (fun _ _ => ⟨by simp, .inl ⟨rfl, rfl⟩⟩) rfl
/-- a part of the rest is taken -/
theorem pass_ok {x : Int} (R : Mc W w0 mm mwb0 mrb0 o dv t3 t4 w mwb mrb wv rv s)
    (hN : (s.failed = true ∨ ¬ FitsP s.buf.length s.off x) → ∀ w', Mc W w0 mm mwb0 mrb0 o dv t3 t4 w' mwb mrb wv rv { s with failed := true } → K (.tuple #[.slice none 0 0, .bool false]) w')
    (hY : s.failed = false → FitsP s.buf.length s.off x → ∀ w' b v' mrb' rv', Mc W w0 mm mwb0 mrb0 o dv t3 t4 w' mwb mrb' wv rv' { s with off := s.off + x.toNat } → Sl u1 1 w' 5 (some b) v' ((s.buf.drop s.off).take x.toNat) → w0.heap.size ≤ b → K (.tuple #[v', .bool true]) w') : cl Try.prog 59 #[Pt mm 0, I x] K w := by
  have hrl := R.m.rl
  have hof := R.m.off
  have hdl : (s.buf.drop s.off).length = s.buf.length - s.off := List.length_drop
  have no : (s.failed = true ∨ ¬ FitsP s.buf.length s.off x) → st1 (Pt mm 2) (.bool true) (fun w => K (.tuple #[.slice none 0 0, .bool false]) w) w := by
    intro hn
    refine st1_r R.m.row (show 2 < 3 by decide) rfl fun w1 r1 hk1 hz1 => ?_
    refine hN hn w1 (R.set hk1 (mwb' := mwb) (mrb' := mrb) ⟨r1, R.m.wk.kp hk1 (sl_nm R.m.wk R.m.row (by decide)), R.m.rd.kp hk1 (sl_nm R.m.rd R.m.row (by decide)), R.m.wby, R.m.wl, R.m.rby, R.m.rl, R.m.off⟩ R.wo R.ro)
  apply c59
  unfold s59_p1
  try simp only [e_fd, e_nck, e_pkt, e_pkf, e_gdtt, e_gdtf, e_gdft, e_gdff, e_ift, e_iff, e_not, e_ln, e_lnT, e_cp, e_cvi, e_ex20, e_ex21, e_ex30, e_ex31, e_ex32, e_add, e_sub, e_mul, e_quo, e_rem, e_and, e_or, e_xor, e_shl, e_shr, e_eql, e_neq, e_lss, e_leq, e_gtr, e_geq, e_beq, e_bne, e_peq1, e_peq2, e_pne1, e_pne2, e_zeq1, e_zeq2, e_zne1, e_zne2, e_feq1, e_fne1, e_feq2, e_fne2, e_seq, e_sne, e_ta1, e_ta2, Nat.zero_add, Nat.add_zero, Bool.not_true, Bool.not_false]
  refine ld1_r R.m.row rfl ?_
  cases hf : s.failed with
  | true =>
    try simp only [e_fd, e_nck, e_pkt, e_pkf, e_gdtt, e_gdtf, e_gdft, e_gdff, e_ift, e_iff, e_not, e_ln, e_lnT, e_cp, e_cvi, e_ex20, e_ex21, e_ex30, e_ex31, e_ex32, e_add, e_sub, e_mul, e_quo, e_rem, e_and, e_or, e_xor, e_shl, e_shr, e_eql, e_neq, e_lss, e_leq, e_gtr, e_geq, e_beq, e_bne, e_peq1, e_peq2, e_pne1, e_pne2, e_zeq1, e_zeq2, e_zne1, e_zne2, e_feq1, e_fne1, e_feq2, e_fne2, e_seq, e_sne, e_ta1, e_ta2, Nat.zero_add, Nat.add_zero, Bool.not_true, Bool.not_false]
    exact no (.inl hf)
  | false =>
    try simp only [e_fd, e_nck, e_pkt, e_pkf, e_gdtt, e_gdtf, e_gdft, e_gdff, e_ift, e_iff, e_not, e_ln, e_lnT, e_cp, e_cvi, e_ex20, e_ex21, e_ex30, e_ex31, e_ex32, e_add, e_sub, e_mul, e_quo, e_rem, e_and, e_or, e_xor, e_shl, e_shr, e_eql, e_neq, e_lss, e_leq, e_gtr, e_geq, e_beq, e_bne, e_peq1, e_peq2, e_pne1, e_pne2, e_zeq1, e_zeq2, e_zne1, e_zne2, e_feq1, e_fne1, e_feq2, e_fne2, e_seq, e_sne, e_ta1, e_ta2, Nat.zero_add, Nat.add_zero, Bool.not_true, Bool.not_false]
    by_cases h1 : x < 0
    · simp only [h1, decide_true, e_fd, e_nck, e_pkt, e_pkf, e_gdtt, e_gdtf, e_gdft, e_gdff, e_ift, e_iff, e_not, e_ln, e_lnT, e_cp, e_cvi, e_ex20, e_ex21, e_ex30, e_ex31, e_ex32, e_add, e_sub, e_mul, e_quo, e_rem, e_and, e_or, e_xor, e_shl, e_shr, e_eql, e_neq, e_lss, e_leq, e_gtr, e_geq, e_beq, e_bne, e_peq1, e_peq2, e_pne1, e_pne2, e_zeq1, e_zeq2, e_zne1, e_zne2, e_feq1, e_fne1, e_feq2, e_fne2, e_seq, e_sne, e_ta1, e_ta2, Nat.zero_add, Nat.add_zero, Bool.not_true, Bool.not_false]
      exact no (.inr (fun q => by have := q.2.1; omega))
    simp only [h1, decide_false, e_fd, e_nck, e_pkt, e_pkf, e_gdtt, e_gdtf, e_gdft, e_gdff, e_ift, e_iff, e_not, e_ln, e_lnT, e_cp, e_cvi, e_ex20, e_ex21, e_ex30, e_ex31, e_ex32, e_add, e_sub, e_mul, e_quo, e_rem, e_and, e_or, e_xor, e_shl, e_shr, e_eql, e_neq, e_lss, e_leq, e_gtr, e_geq, e_beq, e_bne, e_peq1, e_peq2, e_pne1, e_pne2, e_zeq1, e_zeq2, e_zne1, e_zne2, e_feq1, e_fne1, e_feq2, e_fne2, e_seq, e_sne, e_ta1, e_ta2, Nat.zero_add, Nat.add_zero, Bool.not_true, Bool.not_false]
    refine ld1_r R.m.row rfl ?_
    refine R.m.rbs.ln ?_
    rw [hdl]
    by_cases h2 : ((s.buf.length - s.off : Nat) : Int) < x
    · simp only [h2, decide_true, e_fd, e_nck, e_pkt, e_pkf, e_gdtt, e_gdtf, e_gdft, e_gdff, e_ift, e_iff, e_not, e_ln, e_lnT, e_cp, e_cvi, e_ex20, e_ex21, e_ex30, e_ex31, e_ex32, e_add, e_sub, e_mul, e_quo, e_rem, e_and, e_or, e_xor, e_shl, e_shr, e_eql, e_neq, e_lss, e_leq, e_gtr, e_geq, e_beq, e_bne, e_peq1, e_peq2, e_pne1, e_pne2, e_zeq1, e_zeq2, e_zne1, e_zne2, e_feq1, e_fne1, e_feq2, e_fne2, e_seq, e_sne, e_ta1, e_ta2, Nat.zero_add, Nat.add_zero, Bool.not_true, Bool.not_false]
      exact no (.inr (fun q => by have := q.2.2.2; omega))
    simp only [h2, decide_false, e_fd, e_nck, e_pkt, e_pkf, e_gdtt, e_gdtf, e_gdft, e_gdff, e_ift, e_iff, e_not, e_ln, e_lnT, e_cp, e_cvi, e_ex20, e_ex21, e_ex30, e_ex31, e_ex32, e_add, e_sub, e_mul, e_quo, e_rem, e_and, e_or, e_xor, e_shl, e_shr, e_eql, e_neq, e_lss, e_leq, e_gtr, e_geq, e_beq, e_bne, e_peq1, e_peq2, e_pne1, e_pne2, e_zeq1, e_zeq2, e_zne1, e_zne2, e_feq1, e_fne1, e_feq2, e_fne2, e_seq, e_sne, e_ta1, e_ta2, Nat.zero_add, Nat.add_zero, Bool.not_true, Bool.not_false]
    have hfit : FitsP s.buf.length s.off x := ⟨by omega, by omega, by omega, by omega⟩
    refine ld1_r R.m.row rfl ?_
    obtain ⟨n, rfl⟩ : ∃ n : Nat, x = (n : Int) := ⟨x.toNat, by omega⟩
    have htn : ((n : Nat) : Int).toNat = n := by omega
    rw [htn] at hY
    refine R.m.rbs.takeZ (n := n) rfl (by omega) fun v1 hv1 => ?_
    have htl : ((s.buf.drop s.off).take n).length = n := by rw [List.length_take]; omega
    refine copy_ok (hv1 w R.m.rbs) (by omega) fun w1 b1 v2 s1 hb1 hk1 => ?_
    have R1 := R.kp' hk1
    try simp only [e_fd, e_nck, e_pkt, e_pkf, e_gdtt, e_gdtf, e_gdft, e_gdff, e_ift, e_iff, e_not, e_ln, e_lnT, e_cp, e_cvi, e_ex20, e_ex21, e_ex30, e_ex31, e_ex32, e_add, e_sub, e_mul, e_quo, e_rem, e_and, e_or, e_xor, e_shl, e_shr, e_eql, e_neq, e_lss, e_leq, e_gtr, e_geq, e_beq, e_bne, e_peq1, e_peq2, e_pne1, e_pne2, e_zeq1, e_zeq2, e_zne1, e_zne2, e_feq1, e_fne1, e_feq2, e_fne2, e_seq, e_sne, e_ta1, e_ta2, Nat.zero_add, Nat.add_zero, Bool.not_true, Bool.not_false]
    refine ld1_r R1.m.row rfl ?_
    refine R1.m.rbs.dropZ (n := n) rfl (by omega) fun v3 hv3 => ?_
    refine copy_ok (hv3 w1 R1.m.rbs) (by rw [List.length_drop]; omega) fun w2 b2 v4 s2 hb2 hk2 => ?_
    have R2 := R1.kp' hk2
    try simp only [e_fd, e_nck, e_pkt, e_pkf, e_gdtt, e_gdtf, e_gdft, e_gdff, e_ift, e_iff, e_not, e_ln, e_lnT, e_cp, e_cvi, e_ex20, e_ex21, e_ex30, e_ex31, e_ex32, e_add, e_sub, e_mul, e_quo, e_rem, e_and, e_or, e_xor, e_shl, e_shr, e_eql, e_neq, e_lss, e_leq, e_gtr, e_geq, e_beq, e_bne, e_peq1, e_peq2, e_pne1, e_pne2, e_zeq1, e_zeq2, e_zne1, e_zne2, e_feq1, e_fne1, e_feq2, e_fne2, e_seq, e_sne, e_ta1, e_ta2, Nat.zero_add, Nat.add_zero, Bool.not_true, Bool.not_false]
    have sz0 := R.kp.size
    have sz1 := R1.kp.size
    refine st1_r R2.m.row (show 1 < 3 by decide) (sl_scal s2) fun w3 r3 hk3 hz3 => ?_
    rw [List.drop_drop] at s2
    refine hY hf hfit w3 b1 v2 (some b2) v4 (R2.set hk3 ⟨r3, R2.m.wk.kp hk3 (sl_nm R2.m.wk R2.m.row (by decide)), s2.kp hk3 (sl_nm s2 R2.m.row (by decide)), R.m.wby, R.m.wl, R.m.rby, R.m.rl, ?_⟩ R.wo (.inr ⟨b2, rfl, by omega⟩)) ((s1.kp' hk2).kp hk3 (sl_nm (s1.kp' hk2) R2.m.row (by decide))) (by omega)
    show s.off + n ≤ s.buf.length
    omega
end
end Go.Proofs.Qxb6500898a
