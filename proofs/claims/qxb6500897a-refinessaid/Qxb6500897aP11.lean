import Derived.Test.Qxb6500897aP10
namespace Go.Proofs.Qxb6500897a
open Go.Sh Go.RowKit
set_option linter.unusedVariables false
set_option linter.unusedSimpArgs false

theorem e_neg {q : IntKind} {n : Int} {K : Value → World → Prop} {w : World} : un .neg (.int q n) K w = K (.int q (q.wrap (0 - n))) w := rfl

/-- what is admitted at a slot -/
def admOf (t : Tab) (s : Int) (c : Nat) : Int := t.adm.getD (ps t s % t.occ.length * 3 + c) 0
def occOf (t : Tab) (s : Int) : Int := t.occ.getD (ps t s % t.occ.length) 0

def relC (now : Int) (ts : List Tab) (attr slot cls n : Int) : Int :=
  if chk 6 now ts attr slot cls n 1 = 0 then (if admOf (tabOf ts attr) slot cls.toNat < n then 7 else 0) else chk 6 now ts attr slot cls n 1
def relTs (now : Int) (ts : List Tab) (attr slot cls n : Int) : List Tab :=
  if relC now ts attr slot cls n = 0 then ts.set attr.toNat (addT (tabOf ts attr) (ps (tabOf ts attr) slot) cls.toNat (-n)) else ts

theorem Release_ok {w : World} {d tb : Nat} {now : Int} {ts : List Tab} {attr slot cls n : Int} {K : Value → World → Prop} (h : Sys w d tb now ts)
    (hK : ∀ w' v, ErrV w' v (relC now ts attr slot cls n) → Tabs w' d tb 6 90 now (relTs now ts attr slot cls n) → Kp (fun k => k ∈ blks ts) w w' → K v w') :
    cl Try.prog 28 #[.pointer (some ⟨d, 0, none⟩), I attr, I slot, I cls, I n] K w := by
  have n0 := h.n0
  have n1 := h.n1
  apply c28
  unfold s28_p3
  unfold relTs at hK
  refine check_ok (r := 1) h.tabs h.ok (by omega) (by omega) (by omega) (by omega) (by omega) (fun hc w1 hb1 => ?_) (fun hc w1 hb1 => ?_)
  · have ef : relC now ts attr slot cls n = (if admOf (tabOf ts attr) slot cls.toNat < n then 7 else 0) := by unfold relC; rw [if_pos hc]
    rw [ef] at hK
    simp only [e_fd, e_nck, e_pkt, e_pkf, e_gdtt, e_gdtf, e_gdft, e_gdff, e_ift, e_iff, e_not, e_ln, e_lnT, e_cp, e_cvi, e_ex20, e_ex21, e_ex30, e_ex31, e_ex32, e_add, e_sub, e_mul, e_quo, e_rem, e_and, e_or, e_xor, e_shl, e_shr, e_eql, e_neq, e_lss, e_leq, e_gtr, e_geq, e_beq, e_bne, e_peq1, e_peq2, e_pne1, e_pne2, e_zeq1, e_zeq2, e_zne1, e_zne2, e_feq1, e_fne1, e_feq2, e_fne2, e_seq, e_sne, e_ta1, e_ta2, Nat.zero_add, Nat.add_zero, Bool.not_true, Bool.not_false, show ((0 : Int) == 0) = true from rfl]
    have hk := chk_ok hc
    have hsl := chk_slot hc n0 n1 h.ok
    have h1 := h.kp hb1
    rw [tabOf_eq hk.2.1] at hK hsl
    have ec : cls = ((cls.toNat : Nat) : Int) := by omega
    generalize ecn : cls.toNat = cn at *
    subst ec
    have hat := h1.tabs.at hk.2.1
    have htk := h.ok _ (List.getElem_mem hk.2.1)
    have hts := h.sm _ (List.getElem_mem hk.2.1)
    refine admitted_ok hat htk hsl.1 hsl.2.1 (by omega) fun w2 hb2 => ?_
    simp only [e_fd, e_nck, e_pkt, e_pkf, e_gdtt, e_gdtf, e_gdft, e_gdff, e_ift, e_iff, e_not, e_ln, e_lnT, e_cp, e_cvi, e_ex20, e_ex21, e_ex30, e_ex31, e_ex32, e_add, e_sub, e_mul, e_quo, e_rem, e_and, e_or, e_xor, e_shl, e_shr, e_eql, e_neq, e_lss, e_leq, e_gtr, e_geq, e_beq, e_bne, e_peq1, e_peq2, e_pne1, e_pne2, e_zeq1, e_zeq2, e_zne1, e_zne2, e_feq1, e_fne1, e_feq2, e_fne2, e_seq, e_sne, e_ta1, e_ta2, Nat.zero_add, Nat.add_zero, Bool.not_true, Bool.not_false]
    have ea : ts[attr.toNat].adm.getD ((slot + (ts[attr.toNat].att.dwell - 1)).toNat % ts[attr.toNat].occ.length * 3 + cn) 0 = admOf ts[attr.toNat] slot cn := rfl
    rw [ea]
    by_cases hf : admOf ts[attr.toNat] slot cn < n
    · rw [if_pos hf] at hK
      simp only [e_fd, e_nck, e_pkt, e_pkf, e_gdtt, e_gdtf, e_gdft, e_gdff, e_ift, e_iff, e_not, e_ln, e_lnT, e_cp, e_cvi, e_ex20, e_ex21, e_ex30, e_ex31, e_ex32, e_add, e_sub, e_mul, e_quo, e_rem, e_and, e_or, e_xor, e_shl, e_shr, e_eql, e_neq, e_lss, e_leq, e_gtr, e_geq, e_beq, e_bne, e_peq1, e_peq2, e_pne1, e_pne2, e_zeq1, e_zeq2, e_zne1, e_zne2, e_feq1, e_fne1, e_feq2, e_fne2, e_seq, e_sne, e_ta1, e_ta2, Nat.zero_add, Nat.add_zero, Bool.not_true, Bool.not_false, hf, decide_true]
      unfold s28_p2
      simp only [e_fd, e_nck, e_pkt, e_pkf, e_gdtt, e_gdtf, e_gdft, e_gdff, e_ift, e_iff, e_not, e_ln, e_lnT, e_cp, e_cvi, e_ex20, e_ex21, e_ex30, e_ex31, e_ex32, e_add, e_sub, e_mul, e_quo, e_rem, e_and, e_or, e_xor, e_shl, e_shr, e_eql, e_neq, e_lss, e_leq, e_gtr, e_geq, e_beq, e_bne, e_peq1, e_peq2, e_pne1, e_pne2, e_zeq1, e_zeq2, e_zne1, e_zne2, e_feq1, e_fne1, e_feq2, e_fne2, e_seq, e_sne, e_ta1, e_ta2, Nat.zero_add, Nat.add_zero, Bool.not_true, Bool.not_false, show ((7 : Int) == 0) = false from rfl]
      unfold s28_p1
      exact result_ok fun w3 v hv hb3 => hK w3 v hv (h.tabs.kp ((hb1.trans hb2).trans hb3)) ((hb1.trans hb2).trans hb3).none
    · rw [if_neg hf] at hK
      simp only [e_fd, e_nck, e_pkt, e_pkf, e_gdtt, e_gdtf, e_gdft, e_gdff, e_ift, e_iff, e_not, e_ln, e_lnT, e_cp, e_cvi, e_ex20, e_ex21, e_ex30, e_ex31, e_ex32, e_add, e_sub, e_mul, e_quo, e_rem, e_and, e_or, e_xor, e_shl, e_shr, e_eql, e_neq, e_lss, e_leq, e_gtr, e_geq, e_beq, e_bne, e_peq1, e_peq2, e_pne1, e_pne2, e_zeq1, e_zeq2, e_zne1, e_zne2, e_feq1, e_fne1, e_feq2, e_fne2, e_seq, e_sne, e_ta1, e_ta2, Nat.zero_add, Nat.add_zero, Bool.not_true, Bool.not_false, hf, decide_false]
      unfold s28_p2
      simp only [e_fd, e_nck, e_pkt, e_pkf, e_gdtt, e_gdtf, e_gdft, e_gdff, e_ift, e_iff, e_not, e_ln, e_lnT, e_cp, e_cvi, e_ex20, e_ex21, e_ex30, e_ex31, e_ex32, e_add, e_sub, e_mul, e_quo, e_rem, e_and, e_or, e_xor, e_shl, e_shr, e_eql, e_neq, e_lss, e_leq, e_gtr, e_geq, e_beq, e_bne, e_peq1, e_peq2, e_pne1, e_pne2, e_zeq1, e_zeq2, e_zne1, e_zne2, e_feq1, e_fne1, e_feq2, e_fne2, e_seq, e_sne, e_ta1, e_ta2, Nat.zero_add, Nat.add_zero, Bool.not_true, Bool.not_false, show ((0 : Int) == 0) = true from rfl, e_neg]
      have hn : n ≤ 1073741824 := by
        have := hts.adm (ps ts[attr.toNat] slot % ts[attr.toNat].occ.length * 3 + cn)
        unfold admOf at hf
        omega
      rw [wrap64_id (by omega) (by omega), Int.zero_sub]
      rw [if_pos rfl] at hK
      have hat2 := hat.kp hb2
      refine add_ok hat2 htk hts hsl.1 hsl.2.1 (by omega) (by omega) (by omega) fun w3 h3 hb3 => ?_
      unfold s28_p1
      refine result_ok fun w4 v hv hb4 => hK w4 v hv ?_ ?_
      · exact ((h1.kp hb2).tabs.upd hk.2.1 addT_cells rfl rfl h3 hb3).kp hb4
      · have hbm := blks_at hk.2.1
        refine ((hb1.trans hb2).none.trans (hb3.mono ?_)).trans hb4.none
        intro k _ e
        rcases e with e | e
        · rw [e]; exact hbm.1
        · rw [e]; exact hbm.2
  · have ef : relC now ts attr slot cls n = chk 6 now ts attr slot cls n 1 := by unfold relC; rw [if_neg hc]
    rw [ef, if_neg hc] at hK
    have e : (chk 6 now ts attr slot cls n 1 == 0) = false := by simpa using hc
    simp only [e_fd, e_nck, e_pkt, e_pkf, e_gdtt, e_gdtf, e_gdft, e_gdff, e_ift, e_iff, e_not, e_ln, e_lnT, e_cp, e_cvi, e_ex20, e_ex21, e_ex30, e_ex31, e_ex32, e_add, e_sub, e_mul, e_quo, e_rem, e_and, e_or, e_xor, e_shl, e_shr, e_eql, e_neq, e_lss, e_leq, e_gtr, e_geq, e_beq, e_bne, e_peq1, e_peq2, e_pne1, e_pne2, e_zeq1, e_zeq2, e_zne1, e_zne2, e_feq1, e_fne1, e_feq2, e_fne2, e_seq, e_sne, e_ta1, e_ta2, Nat.zero_add, Nat.add_zero, Bool.not_true, Bool.not_false, e]
    unfold s28_p2
    simp only [e_fd, e_nck, e_pkt, e_pkf, e_gdtt, e_gdtf, e_gdft, e_gdff, e_ift, e_iff, e_not, e_ln, e_lnT, e_cp, e_cvi, e_ex20, e_ex21, e_ex30, e_ex31, e_ex32, e_add, e_sub, e_mul, e_quo, e_rem, e_and, e_or, e_xor, e_shl, e_shr, e_eql, e_neq, e_lss, e_leq, e_gtr, e_geq, e_beq, e_bne, e_peq1, e_peq2, e_pne1, e_pne2, e_zeq1, e_zeq2, e_zne1, e_zne2, e_feq1, e_fne1, e_feq2, e_fne2, e_seq, e_sne, e_ta1, e_ta2, Nat.zero_add, Nat.add_zero, Bool.not_true, Bool.not_false, e]
    unfold s28_p1
    exact result_ok fun w3 v hv hb3 => hK w3 v hv (h.tabs.kp (hb1.trans hb3)) (hb1.trans hb3).none

theorem Occupancy_ok {w : World} {d tb : Nat} {now : Int} {ts : List Tab} {attr slot : Int} {K : Value → World → Prop} (h : Sys w d tb now ts)
    (hK : ∀ w' v, ErrV w' v (chk 6 now ts attr slot 0 1 2) → Kp (fun _ => False) w w' → K (.tuple #[I (if chk 6 now ts attr slot 0 1 2 = 0 then occOf (tabOf ts attr) slot else 0), v]) w') :
    cl Try.prog 23 #[.pointer (some ⟨d, 0, none⟩), I attr, I slot] K w := by
  have n0 := h.n0
  have n1 := h.n1
  apply c23
  unfold s23_p3
  refine check_ok (r := 2) h.tabs h.ok (by omega) (by omega) (by omega) (by omega) (by omega) (fun hc w1 hb1 => ?_) (fun hc w1 hb1 => ?_)
  · rw [if_pos hc] at hK
    simp only [e_fd, e_nck, e_pkt, e_pkf, e_gdtt, e_gdtf, e_gdft, e_gdff, e_ift, e_iff, e_not, e_ln, e_lnT, e_cp, e_cvi, e_ex20, e_ex21, e_ex30, e_ex31, e_ex32, e_add, e_sub, e_mul, e_quo, e_rem, e_and, e_or, e_xor, e_shl, e_shr, e_eql, e_neq, e_lss, e_leq, e_gtr, e_geq, e_beq, e_bne, e_peq1, e_peq2, e_pne1, e_pne2, e_zeq1, e_zeq2, e_zne1, e_zne2, e_feq1, e_fne1, e_feq2, e_fne2, e_seq, e_sne, e_ta1, e_ta2, Nat.zero_add, Nat.add_zero, Bool.not_true, Bool.not_false, show ((0 : Int) != 0) = false from rfl]
    have hk := chk_ok hc
    have hsl := chk_slot hc n0 n1 h.ok
    rw [tabOf_eq hk.2.1] at hK hsl
    have htk := h.ok _ (List.getElem_mem hk.2.1)
    have hat := ((h.kp hb1).kp kp_drw).tabs.at hk.2.1
    unfold s23_p2 s23_p2_d
    simp only [e_fd, e_nck, e_pkt, e_pkf, e_gdtt, e_gdtf, e_gdft, e_gdff, e_ift, e_iff, e_not, e_ln, e_lnT, e_cp, e_cvi, e_ex20, e_ex21, e_ex30, e_ex31, e_ex32, e_add, e_sub, e_mul, e_quo, e_rem, e_and, e_or, e_xor, e_shl, e_shr, e_eql, e_neq, e_lss, e_leq, e_gtr, e_geq, e_beq, e_bne, e_peq1, e_peq2, e_pne1, e_pne2, e_zeq1, e_zeq2, e_zne1, e_zne2, e_feq1, e_fne1, e_feq2, e_fne2, e_seq, e_sne, e_ta1, e_ta2, Nat.zero_add, Nat.add_zero, Bool.not_true, Bool.not_false]
    refine hat.fld (j := 7) (by omega) rfl ?_
    refine cell_ok hat htk hsl.1 hsl.2.1 fun w2 hb2 => ⟨hb2.below', ?_⟩
    have hm := Nat.mod_lt (slot + (ts[attr.toNat].att.dwell - 1)).toNat htk.l1
    refine ixs1_r hm ⟨hb2.below', ?_⟩
    refine ldI (hat.kp hb2).occ hm ⟨hb2.below', hb2.below', ?_⟩
    unfold s23_p1
    exact hK w2 _ (.inl ⟨hc, rfl⟩) ((hb1.trans kp_drw).trans hb2)
  · rw [if_neg hc] at hK
    have e : (chk 6 now ts attr slot 0 1 2 != 0) = true := by simpa using hc
    simp only [e_fd, e_nck, e_pkt, e_pkf, e_gdtt, e_gdtf, e_gdft, e_gdff, e_ift, e_iff, e_not, e_ln, e_lnT, e_cp, e_cvi, e_ex20, e_ex21, e_ex30, e_ex31, e_ex32, e_add, e_sub, e_mul, e_quo, e_rem, e_and, e_or, e_xor, e_shl, e_shr, e_eql, e_neq, e_lss, e_leq, e_gtr, e_geq, e_beq, e_bne, e_peq1, e_peq2, e_pne1, e_pne2, e_zeq1, e_zeq2, e_zne1, e_zne2, e_feq1, e_fne1, e_feq2, e_fne2, e_seq, e_sne, e_ta1, e_ta2, Nat.zero_add, Nat.add_zero, Bool.not_true, Bool.not_false, e]
    exact result_ok fun w3 v hv hb3 => hK w3 v hv (hb1.trans hb3)

theorem Admitted_ok {w : World} {d tb : Nat} {now : Int} {ts : List Tab} {attr slot cls : Int} {K : Value → World → Prop} (h : Sys w d tb now ts)
    (hK : ∀ w' v, ErrV w' v (chk 6 now ts attr slot cls 1 2) → Kp (fun _ => False) w w' → K (.tuple #[I (if chk 6 now ts attr slot cls 1 2 = 0 then admOf (tabOf ts attr) slot cls.toNat else 0), v]) w') :
    cl Try.prog 51 #[.pointer (some ⟨d, 0, none⟩), I attr, I slot, I cls] K w := by
  have n0 := h.n0
  have n1 := h.n1
  apply c51
  unfold s51_p1
  refine check_ok (r := 2) h.tabs h.ok (by omega) (by omega) (by omega) (by omega) (by omega) (fun hc w1 hb1 => ?_) (fun hc w1 hb1 => ?_)
  · rw [if_pos hc] at hK
    simp only [e_fd, e_nck, e_pkt, e_pkf, e_gdtt, e_gdtf, e_gdft, e_gdff, e_ift, e_iff, e_not, e_ln, e_lnT, e_cp, e_cvi, e_ex20, e_ex21, e_ex30, e_ex31, e_ex32, e_add, e_sub, e_mul, e_quo, e_rem, e_and, e_or, e_xor, e_shl, e_shr, e_eql, e_neq, e_lss, e_leq, e_gtr, e_geq, e_beq, e_bne, e_peq1, e_peq2, e_pne1, e_pne2, e_zeq1, e_zeq2, e_zne1, e_zne2, e_feq1, e_fne1, e_feq2, e_fne2, e_seq, e_sne, e_ta1, e_ta2, Nat.zero_add, Nat.add_zero, Bool.not_true, Bool.not_false, show ((0 : Int) != 0) = false from rfl]
    have hk := chk_ok hc
    have hsl := chk_slot hc n0 n1 h.ok
    rw [tabOf_eq hk.2.1] at hK hsl
    have htk := h.ok _ (List.getElem_mem hk.2.1)
    have ec : cls = ((cls.toNat : Nat) : Int) := by omega
    have herr : ∀ w', ErrV w' .nilIface (chk 6 now ts attr slot cls 1 2) := fun w' => .inl ⟨hc, rfl⟩
    generalize cls.toNat = cn at *
    subst ec
    refine admitted_ok ((h.kp hb1).tabs.at hk.2.1) htk hsl.1 hsl.2.1 (by omega) fun w2 hb2 => ?_
    exact hK w2 _ (herr w2) (hb1.trans hb2)
  · rw [if_neg hc] at hK
    have e : (chk 6 now ts attr slot cls 1 2 != 0) = true := by simpa using hc
    simp only [e_fd, e_nck, e_pkt, e_pkf, e_gdtt, e_gdtf, e_gdft, e_gdff, e_ift, e_iff, e_not, e_ln, e_lnT, e_cp, e_cvi, e_ex20, e_ex21, e_ex30, e_ex31, e_ex32, e_add, e_sub, e_mul, e_quo, e_rem, e_and, e_or, e_xor, e_shl, e_shr, e_eql, e_neq, e_lss, e_leq, e_gtr, e_geq, e_beq, e_bne, e_peq1, e_peq2, e_pne1, e_pne2, e_zeq1, e_zeq2, e_zne1, e_zne2, e_feq1, e_fne1, e_feq2, e_fne2, e_seq, e_sne, e_ta1, e_ta2, Nat.zero_add, Nat.add_zero, Bool.not_true, Bool.not_false, e]
    exact result_ok fun w3 v hv hb3 => hK w3 v hv (hb1.trans hb3)

/-- Room's answer -/
def roomOf (t : Tab) (s : Int) (c : Nat) : Int :=
  if t.att.q c - admOf t s c < t.att.cap - pkN t (ps t s) (t.att.dwell - 1).toNat then t.att.q c - admOf t s c else t.att.cap - pkN t (ps t s) (t.att.dwell - 1).toNat

theorem Room_ok {w : World} {d tb : Nat} {now : Int} {ts : List Tab} {attr slot cls : Int} {K : Value → World → Prop} (h : Sys w d tb now ts)
    (hK : ∀ w' v, ErrV w' v (chk 6 now ts attr slot cls 1 0) → Kp (fun _ => False) w w' → K (.tuple #[I (if chk 6 now ts attr slot cls 1 0 = 0 then roomOf (tabOf ts attr) slot cls.toNat else 0), v]) w') :
    cl Try.prog 49 #[.pointer (some ⟨d, 0, none⟩), I attr, I slot, I cls] K w := by
  have n0 := h.n0
  have n1 := h.n1
  apply c49
  unfold s49_p5
  refine check_ok (r := 0) h.tabs h.ok (by omega) (by omega) (by omega) (by omega) (by omega) (fun hc w1 hb1 => ?_) (fun hc w1 hb1 => ?_)
  · rw [if_pos hc] at hK
    simp only [e_fd, e_nck, e_pkt, e_pkf, e_gdtt, e_gdtf, e_gdft, e_gdff, e_ift, e_iff, e_not, e_ln, e_lnT, e_cp, e_cvi, e_ex20, e_ex21, e_ex30, e_ex31, e_ex32, e_add, e_sub, e_mul, e_quo, e_rem, e_and, e_or, e_xor, e_shl, e_shr, e_eql, e_neq, e_lss, e_leq, e_gtr, e_geq, e_beq, e_bne, e_peq1, e_peq2, e_pne1, e_pne2, e_zeq1, e_zeq2, e_zne1, e_zne2, e_feq1, e_fne1, e_feq2, e_fne2, e_seq, e_sne, e_ta1, e_ta2, Nat.zero_add, Nat.add_zero, Bool.not_true, Bool.not_false, show ((0 : Int) != 0) = false from rfl]
    have hk := chk_ok hc
    have hsl := chk_slot hc n0 n1 h.ok
    rw [tabOf_eq hk.2.1] at hK hsl
    have htk := h.ok _ (List.getElem_mem hk.2.1)
    have hts := h.sm _ (List.getElem_mem hk.2.1)
    have ec : cls = ((cls.toNat : Nat) : Int) := by omega
    have herr : ∀ w', ErrV w' .nilIface (chk 6 now ts attr slot cls 1 0) := fun w' => .inl ⟨hc, rfl⟩
    generalize cls.toNat = cn at *
    subst ec
    have hcn : cn < 3 := by omega
    have c1 := htk.c1
    have c2 := htk.c2
    have hat := ((h.kp hb1).kp kp_drw).tabs.at hk.2.1
    unfold s49_p4 s49_p4_d
    simp only [e_fd, e_nck, e_pkt, e_pkf, e_gdtt, e_gdtf, e_gdft, e_gdff, e_ift, e_iff, e_not, e_ln, e_lnT, e_cp, e_cvi, e_ex20, e_ex21, e_ex30, e_ex31, e_ex32, e_add, e_sub, e_mul, e_quo, e_rem, e_and, e_or, e_xor, e_shl, e_shr, e_eql, e_neq, e_lss, e_leq, e_gtr, e_geq, e_beq, e_bne, e_peq1, e_peq2, e_pne1, e_pne2, e_zeq1, e_zeq2, e_zne1, e_zne2, e_feq1, e_fne1, e_feq2, e_fne2, e_seq, e_sne, e_ta1, e_ta2, Nat.zero_add, Nat.add_zero, Bool.not_true, Bool.not_false]
    refine hat.fld0 rfl ?_
    refine peak_ok hat htk hsl.1 hsl.2.1 fun w2 hb2 => ⟨hb2.below', ?_⟩
    have hp := pkN_bd hts (slot + (ts[attr.toNat].att.dwell - 1)).toNat (ts[attr.toNat].att.dwell - 1).toNat
    simp only [e_fd, e_nck, e_pkt, e_pkf, e_gdtt, e_gdtf, e_gdft, e_gdff, e_ift, e_iff, e_not, e_ln, e_lnT, e_cp, e_cvi, e_ex20, e_ex21, e_ex30, e_ex31, e_ex32, e_add, e_sub, e_mul, e_quo, e_rem, e_and, e_or, e_xor, e_shl, e_shr, e_eql, e_neq, e_lss, e_leq, e_gtr, e_geq, e_beq, e_bne, e_peq1, e_peq2, e_pne1, e_pne2, e_zeq1, e_zeq2, e_zne1, e_zne2, e_feq1, e_fne1, e_feq2, e_fne2, e_seq, e_sne, e_ta1, e_ta2, Nat.zero_add, Nat.add_zero, Bool.not_true, Bool.not_false]
    rw [wrap64_id (by omega) (by omega)]
    unfold s49_p3 s49_p3_d
    simp only [e_fd, e_nck, e_pkt, e_pkf, e_gdtt, e_gdtf, e_gdft, e_gdff, e_ift, e_iff, e_not, e_ln, e_lnT, e_cp, e_cvi, e_ex20, e_ex21, e_ex30, e_ex31, e_ex32, e_add, e_sub, e_mul, e_quo, e_rem, e_and, e_or, e_xor, e_shl, e_shr, e_eql, e_neq, e_lss, e_leq, e_gtr, e_geq, e_beq, e_bne, e_peq1, e_peq2, e_pne1, e_pne2, e_zeq1, e_zeq2, e_zne1, e_zne2, e_feq1, e_fne1, e_feq2, e_fne2, e_seq, e_sne, e_ta1, e_ta2, Nat.zero_add, Nat.add_zero, Bool.not_true, Bool.not_false]
    have hat2 := (hat.kp hb2).kp kp_drw
    refine ixa_r hcn ?_
    rw [Nat.mul_one, Nat.add_assoc]
    refine hat2.fld (by omega) (q_cell hcn) ?_
    refine admitted_ok hat2 htk hsl.1 hsl.2.1 hcn fun w3 hb3 => ⟨hb3.below', ?_⟩
    have ha := hts.adm ((slot + (ts[attr.toNat].att.dwell - 1)).toNat % ts[attr.toNat].occ.length * 3 + cn)
    have hq := hts.q cn
    simp only [e_fd, e_nck, e_pkt, e_pkf, e_gdtt, e_gdtf, e_gdft, e_gdff, e_ift, e_iff, e_not, e_ln, e_lnT, e_cp, e_cvi, e_ex20, e_ex21, e_ex30, e_ex31, e_ex32, e_add, e_sub, e_mul, e_quo, e_rem, e_and, e_or, e_xor, e_shl, e_shr, e_eql, e_neq, e_lss, e_leq, e_gtr, e_geq, e_beq, e_bne, e_peq1, e_peq2, e_pne1, e_pne2, e_zeq1, e_zeq2, e_zne1, e_zne2, e_feq1, e_fne1, e_feq2, e_fne2, e_seq, e_sne, e_ta1, e_ta2, Nat.zero_add, Nat.add_zero, Bool.not_true, Bool.not_false]
    rw [wrap64_id (by omega) (by omega)]
    unfold s49_p2
    simp only [e_fd, e_nck, e_pkt, e_pkf, e_gdtt, e_gdtf, e_gdft, e_gdff, e_ift, e_iff, e_not, e_ln, e_lnT, e_cp, e_cvi, e_ex20, e_ex21, e_ex30, e_ex31, e_ex32, e_add, e_sub, e_mul, e_quo, e_rem, e_and, e_or, e_xor, e_shl, e_shr, e_eql, e_neq, e_lss, e_leq, e_gtr, e_geq, e_beq, e_bne, e_peq1, e_peq2, e_pne1, e_pne2, e_zeq1, e_zeq2, e_zne1, e_zne2, e_feq1, e_fne1, e_feq2, e_fne2, e_seq, e_sne, e_ta1, e_ta2, Nat.zero_add, Nat.add_zero, Bool.not_true, Bool.not_false]
    have kk : Kp (fun _ => False) w w3 := ((((hb1.trans kp_drw).trans hb2).trans kp_drw).trans hb3)
    have hK3 := hK w3 _ (herr w3) kk
    unfold roomOf admOf at hK3
    by_cases hlt : ts[attr.toNat].att.q cn - ts[attr.toNat].adm.getD ((slot + (ts[attr.toNat].att.dwell - 1)).toNat % ts[attr.toNat].occ.length * 3 + cn) 0 < ts[attr.toNat].att.cap - pkN ts[attr.toNat] (slot + (ts[attr.toNat].att.dwell - 1)).toNat (ts[attr.toNat].att.dwell - 1).toNat
    · simp only [e_fd, e_nck, e_pkt, e_pkf, e_gdtt, e_gdtf, e_gdft, e_gdff, e_ift, e_iff, e_not, e_ln, e_lnT, e_cp, e_cvi, e_ex20, e_ex21, e_ex30, e_ex31, e_ex32, e_add, e_sub, e_mul, e_quo, e_rem, e_and, e_or, e_xor, e_shl, e_shr, e_eql, e_neq, e_lss, e_leq, e_gtr, e_geq, e_beq, e_bne, e_peq1, e_peq2, e_pne1, e_pne2, e_zeq1, e_zeq2, e_zne1, e_zne2, e_feq1, e_fne1, e_feq2, e_fne2, e_seq, e_sne, e_ta1, e_ta2, Nat.zero_add, Nat.add_zero, Bool.not_true, Bool.not_false, hlt, decide_true]
      unfold s49_p1
      rw [if_pos hlt] at hK3
      exact hK3
    · simp only [e_fd, e_nck, e_pkt, e_pkf, e_gdtt, e_gdtf, e_gdft, e_gdff, e_ift, e_iff, e_not, e_ln, e_lnT, e_cp, e_cvi, e_ex20, e_ex21, e_ex30, e_ex31, e_ex32, e_add, e_sub, e_mul, e_quo, e_rem, e_and, e_or, e_xor, e_shl, e_shr, e_eql, e_neq, e_lss, e_leq, e_gtr, e_geq, e_beq, e_bne, e_peq1, e_peq2, e_pne1, e_pne2, e_zeq1, e_zeq2, e_zne1, e_zne2, e_feq1, e_fne1, e_feq2, e_fne2, e_seq, e_sne, e_ta1, e_ta2, Nat.zero_add, Nat.add_zero, Bool.not_true, Bool.not_false, hlt, decide_false]
      unfold s49_p1
      rw [if_neg hlt] at hK3
      exact hK3
  · rw [if_neg hc] at hK
    have e : (chk 6 now ts attr slot cls 1 0 != 0) = true := by simpa using hc
    simp only [e_fd, e_nck, e_pkt, e_pkf, e_gdtt, e_gdtf, e_gdft, e_gdff, e_ift, e_iff, e_not, e_ln, e_lnT, e_cp, e_cvi, e_ex20, e_ex21, e_ex30, e_ex31, e_ex32, e_add, e_sub, e_mul, e_quo, e_rem, e_and, e_or, e_xor, e_shl, e_shr, e_eql, e_neq, e_lss, e_leq, e_gtr, e_geq, e_beq, e_bne, e_peq1, e_peq2, e_pne1, e_pne2, e_zeq1, e_zeq2, e_zne1, e_zne2, e_feq1, e_fne1, e_feq2, e_fne2, e_seq, e_sne, e_ta1, e_ta2, Nat.zero_add, Nat.add_zero, Bool.not_true, Bool.not_false, e]
    exact result_ok fun w3 v hv hb3 => hK w3 v hv (hb1.trans hb3)
end Go.Proofs.Qxb6500897a
