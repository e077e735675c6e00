import Derived.Test.Qxb6500897aP9
namespace Go.Proofs.Qxb6500897a
open Go.Sh Go.RowKit
set_option linter.unusedVariables false
set_option linter.unusedSimpArgs false

/-- the tables of the laws -/
structure Sys (w : World) (d tb : Nat) (now : Int) (ts : List Tab) : Prop where
  tabs : Tabs w d tb 6 90 now ts
  ok : ∀ t ∈ ts, TOk t
  sm : ∀ t ∈ ts, TSm t
  n0 : 0 ≤ now
  n1 : now ≤ 90
theorem Sys.kp {w w' : World} {d tb : Nat} {now : Int} {ts : List Tab} (h : Sys w d tb now ts) (hk : Kp (fun _ => False) w w') : Sys w' d tb now ts := ⟨h.tabs.kp hk, h.ok, h.sm, h.n0, h.n1⟩

def dflt : Tab := ⟨⟨1, 1, 0, 0, 0⟩, 0, 0, [], []⟩
def tabOf (ts : List Tab) (attr : Int) : Tab := ts.getD attr.toNat dflt
theorem tabOf_eq {ts : List Tab} {attr : Int} (h : attr.toNat < ts.length) : tabOf ts attr = ts[attr.toNat] := by
  unfold tabOf; simp [List.getD, h]

/-- the place of a slot -/
abbrev ps (t : Tab) (s : Int) : Nat := (s + (t.att.dwell - 1)).toNat

theorem chk_slot {now : Int} {ts : List Tab} {attr slot cls n : Int} {r : Nat} (h : chk 6 now ts attr slot cls n r = 0) (n0 : 0 ≤ now) (n1 : now ≤ 90) (hok : ∀ t ∈ ts, TOk t) :
    0 ≤ slot + ((tabOf ts attr).att.dwell - 1) ∧ slot ≤ 1099511627776 ∧ slot ≤ now + 5 + (if r = 2 then ((tabOf ts attr).att.dwell - 1) else 0) ∧ (r = 0 → now ≤ slot) := by
  have hc := chk_ok h
  have htk := hok _ (List.getElem_mem hc.2.1)
  have d1 := htk.d1
  have d2 := htk.d2
  rw [tabOf_eq hc.2.1]
  unfold chk at h
  have edw : (ts[attr.toNat]?.map (·.att.dwell)).getD 0 = ts[attr.toNat].att.dwell := by rw [List.getElem?_eq_getElem hc.2.1]; rfl
  rw [edw] at h
  split at h
  · omega
  split at h
  · omega
  split at h
  · omega
  split at h
  · omega
  rename_i hne
  by_cases r0 : r = 0
  · subst r0; simp at hne ⊢ <;> omega
  · by_cases r2 : r = 2
    · subst r2; simp at hne ⊢ <;> omega
    · simp [r0, r2] at hne ⊢ <;> omega

/-- Fits -/
def fitsC (now : Int) (ts : List Tab) (attr slot cls n : Int) : Int :=
  if chk 6 now ts attr slot cls n 0 = 0 then fitsF (tabOf ts attr) slot cls.toNat n else chk 6 now ts attr slot cls n 0

theorem Fits_ok {w : World} {d tb : Nat} {now : Int} {ts : List Tab} {attr slot cls n : Int} {K : Value → World → Prop} (h : Sys w d tb now ts)
    (hK : ∀ w' v, ErrV w' v (fitsC now ts attr slot cls n) → Kp (fun _ => False) w w' → K v w') : cl Try.prog 33 #[.pointer (some ⟨d, 0, none⟩), I attr, I slot, I cls, I n] K w := by
  have n0 := h.n0
  have n1 := h.n1
  apply c33
  unfold s33_p2
  unfold fitsC at hK
  refine check_ok (r := 0) h.tabs h.ok (by omega) (by omega) (by omega) (by omega) (by omega) (fun hc w1 hb1 => ?_) (fun hc w1 hb1 => ?_)
  · rw [if_pos hc] at hK
    simp only [e_fd, e_nck, e_pkt, e_pkf, e_gdtt, e_gdtf, e_gdft, e_gdff, e_ift, e_iff, e_not, e_ln, e_lnT, e_cp, e_cvi, e_ex20, e_ex21, e_ex30, e_ex31, e_ex32, e_add, e_sub, e_mul, e_quo, e_rem, e_and, e_or, e_xor, e_shl, e_shr, e_eql, e_neq, e_lss, e_leq, e_gtr, e_geq, e_beq, e_bne, e_peq1, e_peq2, e_pne1, e_pne2, e_zeq1, e_zeq2, e_zne1, e_zne2, e_feq1, e_fne1, e_feq2, e_fne2, e_seq, e_sne, e_ta1, e_ta2, Nat.zero_add, Nat.add_zero, Bool.not_true, Bool.not_false, show ((0 : Int) == 0) = true from rfl]
    have hk := chk_ok hc
    have hsl := chk_slot hc n0 n1 h.ok
    have h1 := h.kp hb1
    rw [tabOf_eq hk.2.1] at hK hsl
    have ec : cls = ((cls.toNat : Nat) : Int) := by omega
    rw [ec]
    refine fits_ok (h1.tabs.at hk.2.1) (h.ok _ (List.getElem_mem hk.2.1)) (h.sm _ (List.getElem_mem hk.2.1)) hsl.1 hsl.2.1 (by omega) fun w2 hb2 => ?_
    unfold s33_p1
    exact result_ok fun w3 v hv hb3 => hK w3 v hv ((hb1.trans hb2).trans hb3)
  · rw [if_neg hc] at hK
    have e : (chk 6 now ts attr slot cls n 0 == 0) = false := by simpa using hc
    simp only [e_fd, e_nck, e_pkt, e_pkf, e_gdtt, e_gdtf, e_gdft, e_gdff, e_ift, e_iff, e_not, e_ln, e_lnT, e_cp, e_cvi, e_ex20, e_ex21, e_ex30, e_ex31, e_ex32, e_add, e_sub, e_mul, e_quo, e_rem, e_and, e_or, e_xor, e_shl, e_shr, e_eql, e_neq, e_lss, e_leq, e_gtr, e_geq, e_beq, e_bne, e_peq1, e_peq2, e_pne1, e_pne2, e_zeq1, e_zeq2, e_zne1, e_zne2, e_feq1, e_fne1, e_feq2, e_fne2, e_seq, e_sne, e_ta1, e_ta2, Nat.zero_add, Nat.add_zero, Bool.not_true, Bool.not_false, e]
    unfold s33_p1
    exact result_ok fun w3 v hv hb3 => hK w3 v hv (hb1.trans hb3)

/-- Admit: the code, the tables after -/
def admitTs (now : Int) (ts : List Tab) (attr slot cls n : Int) : List Tab :=
  if fitsC now ts attr slot cls n = 0 then ts.set attr.toNat (addT (tabOf ts attr) (ps (tabOf ts attr) slot) cls.toNat n) else ts

theorem addT_cells {t : Tab} {x c : Nat} {n : Int} : (addT t x c n).cells = t.cells := upd_cells (addN_length _ _ _ _) (by simp)

theorem Admit_ok {w : World} {d tb : Nat} {now : Int} {ts : List Tab} {attr slot cls n : Int} {K : Value → World → Prop} (h : Sys w d tb now ts)
    (hK : ∀ w' v, ErrV w' v (fitsC now ts attr slot cls n) → Tabs w' d tb 6 90 now (admitTs now ts attr slot cls n) → Kp (fun k => k ∈ blks ts) w w' → K v w') :
    cl Try.prog 29 #[.pointer (some ⟨d, 0, none⟩), I attr, I slot, I cls, I n] K w := by
  have n0 := h.n0
  have n1 := h.n1
  apply c29
  unfold s29_p3
  unfold admitTs at hK
  refine check_ok (r := 0) h.tabs h.ok (by omega) (by omega) (by omega) (by omega) (by omega) (fun hc w1 hb1 => ?_) (fun hc w1 hb1 => ?_)
  · have ef : fitsC now ts attr slot cls n = fitsF (tabOf ts attr) slot cls.toNat n := by unfold fitsC; rw [if_pos hc]
    rw [ef] at hK
    simp only [e_fd, e_nck, e_pkt, e_pkf, e_gdtt, e_gdtf, e_gdft, e_gdff, e_ift, e_iff, e_not, e_ln, e_lnT, e_cp, e_cvi, e_ex20, e_ex21, e_ex30, e_ex31, e_ex32, e_add, e_sub, e_mul, e_quo, e_rem, e_and, e_or, e_xor, e_shl, e_shr, e_eql, e_neq, e_lss, e_leq, e_gtr, e_geq, e_beq, e_bne, e_peq1, e_peq2, e_pne1, e_pne2, e_zeq1, e_zeq2, e_zne1, e_zne2, e_feq1, e_fne1, e_feq2, e_fne2, e_seq, e_sne, e_ta1, e_ta2, Nat.zero_add, Nat.add_zero, Bool.not_true, Bool.not_false, show ((0 : Int) == 0) = true from rfl]
    have hk := chk_ok hc
    have hsl := chk_slot hc n0 n1 h.ok
    have h1 := h.kp hb1
    rw [tabOf_eq hk.2.1] at hK hsl
    have ec : cls = ((cls.toNat : Nat) : Int) := by omega
    generalize ecn : cls.toNat = cn at *
    subst ec
    have hat := h1.tabs.at hk.2.1
    have htk := h.ok _ (List.getElem_mem hk.2.1)
    have hts := h.sm _ (List.getElem_mem hk.2.1)
    refine fits_ok hat htk hts hsl.1 hsl.2.1 (by omega) fun w2 hb2 => ?_
    unfold s29_p2
    simp only [e_fd, e_nck, e_pkt, e_pkf, e_gdtt, e_gdtf, e_gdft, e_gdff, e_ift, e_iff, e_not, e_ln, e_lnT, e_cp, e_cvi, e_ex20, e_ex21, e_ex30, e_ex31, e_ex32, e_add, e_sub, e_mul, e_quo, e_rem, e_and, e_or, e_xor, e_shl, e_shr, e_eql, e_neq, e_lss, e_leq, e_gtr, e_geq, e_beq, e_bne, e_peq1, e_peq2, e_pne1, e_pne2, e_zeq1, e_zeq2, e_zne1, e_zne2, e_feq1, e_fne1, e_feq2, e_fne2, e_seq, e_sne, e_ta1, e_ta2, Nat.zero_add, Nat.add_zero, Bool.not_true, Bool.not_false]
    by_cases hf : fitsF ts[attr.toNat] slot cn n = 0
    · rw [if_pos hf] at hK
      have e : (fitsF ts[attr.toNat] slot cn n == 0) = true := by simpa using hf
      simp only [e_fd, e_nck, e_pkt, e_pkf, e_gdtt, e_gdtf, e_gdft, e_gdff, e_ift, e_iff, e_not, e_ln, e_lnT, e_cp, e_cvi, e_ex20, e_ex21, e_ex30, e_ex31, e_ex32, e_add, e_sub, e_mul, e_quo, e_rem, e_and, e_or, e_xor, e_shl, e_shr, e_eql, e_neq, e_lss, e_leq, e_gtr, e_geq, e_beq, e_bne, e_peq1, e_peq2, e_pne1, e_pne2, e_zeq1, e_zeq2, e_zne1, e_zne2, e_feq1, e_fne1, e_feq2, e_fne2, e_seq, e_sne, e_ta1, e_ta2, Nat.zero_add, Nat.add_zero, Bool.not_true, Bool.not_false, e]
      have hn : n ≤ 1073741824 := by
        have := htk.c2
        have hp := pkN_bd hts (slot + (ts[attr.toNat].att.dwell - 1)).toNat (ts[attr.toNat].att.dwell - 1).toNat
        unfold fitsF at hf
        split at hf <;> omega
      have hat2 := hat.kp hb2
      refine add_ok hat2 htk hts hsl.1 hsl.2.1 (by omega) (by omega) hn fun w3 h3 hb3 => ?_
      unfold s29_p1
      refine result_ok fun w4 v hv hb4 => hK w4 v hv ?_ ?_
      · exact ((h1.kp hb2).tabs.upd hk.2.1 addT_cells rfl rfl h3 hb3).kp hb4
      · have hbm := blks_at hk.2.1
        refine ((hb1.trans hb2).none.trans (hb3.mono ?_)).trans hb4.none
        intro k _ e
        rcases e with e | e
        · rw [e]; exact hbm.1
        · rw [e]; exact hbm.2
    · rw [if_neg hf] at hK
      have e : (fitsF ts[attr.toNat] slot cn n == 0) = false := by simpa using hf
      simp only [e_fd, e_nck, e_pkt, e_pkf, e_gdtt, e_gdtf, e_gdft, e_gdff, e_ift, e_iff, e_not, e_ln, e_lnT, e_cp, e_cvi, e_ex20, e_ex21, e_ex30, e_ex31, e_ex32, e_add, e_sub, e_mul, e_quo, e_rem, e_and, e_or, e_xor, e_shl, e_shr, e_eql, e_neq, e_lss, e_leq, e_gtr, e_geq, e_beq, e_bne, e_peq1, e_peq2, e_pne1, e_pne2, e_zeq1, e_zeq2, e_zne1, e_zne2, e_feq1, e_fne1, e_feq2, e_fne2, e_seq, e_sne, e_ta1, e_ta2, Nat.zero_add, Nat.add_zero, Bool.not_true, Bool.not_false, e]
      unfold s29_p1
      exact result_ok fun w3 v hv hb3 => hK w3 v hv (h.tabs.kp ((hb1.trans hb2).trans hb3)) ((hb1.trans hb2).trans hb3).none
  · have ef : fitsC now ts attr slot cls n = chk 6 now ts attr slot cls n 0 := by unfold fitsC; rw [if_neg hc]
    rw [ef, if_neg hc] at hK
    have e : (chk 6 now ts attr slot cls n 0 == 0) = false := by simpa using hc
    simp only [e_fd, e_nck, e_pkt, e_pkf, e_gdtt, e_gdtf, e_gdft, e_gdff, e_ift, e_iff, e_not, e_ln, e_lnT, e_cp, e_cvi, e_ex20, e_ex21, e_ex30, e_ex31, e_ex32, e_add, e_sub, e_mul, e_quo, e_rem, e_and, e_or, e_xor, e_shl, e_shr, e_eql, e_neq, e_lss, e_leq, e_gtr, e_geq, e_beq, e_bne, e_peq1, e_peq2, e_pne1, e_pne2, e_zeq1, e_zeq2, e_zne1, e_zne2, e_feq1, e_fne1, e_feq2, e_fne2, e_seq, e_sne, e_ta1, e_ta2, Nat.zero_add, Nat.add_zero, Bool.not_true, Bool.not_false, e]
    unfold s29_p2
    simp only [e_fd, e_nck, e_pkt, e_pkf, e_gdtt, e_gdtf, e_gdft, e_gdff, e_ift, e_iff, e_not, e_ln, e_lnT, e_cp, e_cvi, e_ex20, e_ex21, e_ex30, e_ex31, e_ex32, e_add, e_sub, e_mul, e_quo, e_rem, e_and, e_or, e_xor, e_shl, e_shr, e_eql, e_neq, e_lss, e_leq, e_gtr, e_geq, e_beq, e_bne, e_peq1, e_peq2, e_pne1, e_pne2, e_zeq1, e_zeq2, e_zne1, e_zne2, e_feq1, e_fne1, e_feq2, e_fne2, e_seq, e_sne, e_ta1, e_ta2, Nat.zero_add, Nat.add_zero, Bool.not_true, Bool.not_false, e]
    unfold s29_p1
    exact result_ok fun w3 v hv hb3 => hK w3 v hv (h.tabs.kp (hb1.trans hb3)) (hb1.trans hb3).none
end Go.Proofs.Qxb6500897a
