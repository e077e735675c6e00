import Derived.Test.Qxb6500897aP11
namespace Go.Proofs.Qxb6500897a
open Go.Sh Go.RowKit
set_option linter.unusedVariables false
set_option linter.unusedSimpArgs false

theorem Horizon_ok {w : World} {d tb : Nat} {now : Int} {ts : List Tab} {K : Value → World → Prop} (h : Sys w d tb now ts)
    (hK : ∀ w', Kp (fun _ => False) w w' → K (.tuple #[I now, I (now + 5)]) w') : cl Try.prog 35 #[.pointer (some ⟨d, 0, none⟩)] K w := by
  have n0 := h.n0
  have n1 := h.n1
  apply c35
  unfold s35_p3 s35_p2 s35_p2_d
  simp only [e_fd, e_nck, e_pkt, e_pkf, e_gdtt, e_gdtf, e_gdft, e_gdff, e_ift, e_iff, e_not, e_ln, e_lnT, e_cp, e_cvi, e_ex20, e_ex21, e_ex30, e_ex31, e_ex32, e_add, e_sub, e_mul, e_quo, e_rem, e_and, e_or, e_xor, e_shl, e_shr, e_eql, e_neq, e_lss, e_leq, e_gtr, e_geq, e_beq, e_bne, e_peq1, e_peq2, e_pne1, e_pne2, e_zeq1, e_zeq2, e_zne1, e_zne2, e_feq1, e_fne1, e_feq2, e_fne2, e_seq, e_sne, e_ta1, e_ta2, Nat.zero_add, Nat.add_zero, Bool.not_true, Bool.not_false]
  refine ld1_r h.tabs.top.drw rfl ?_
  refine ld1_r h.tabs.top.drw rfl ?_
  refine ld1_r h.tabs.top.drw rfl ?_
  simp only [e_fd, e_nck, e_pkt, e_pkf, e_gdtt, e_gdtf, e_gdft, e_gdff, e_ift, e_iff, e_not, e_ln, e_lnT, e_cp, e_cvi, e_ex20, e_ex21, e_ex30, e_ex31, e_ex32, e_add, e_sub, e_mul, e_quo, e_rem, e_and, e_or, e_xor, e_shl, e_shr, e_eql, e_neq, e_lss, e_leq, e_gtr, e_geq, e_beq, e_bne, e_peq1, e_peq2, e_pne1, e_pne2, e_zeq1, e_zeq2, e_zne1, e_zne2, e_feq1, e_fne1, e_feq2, e_fne2, e_seq, e_sne, e_ta1, e_ta2, Nat.zero_add, Nat.add_zero, Bool.not_true, Bool.not_false]
  rw [wrap64_id (n := now + 6) (by omega) (by omega), wrap64_id (by omega) (by omega)]
  unfold s35_p1
  have e : now + 6 - 1 = now + 5 := by omega
  rw [e]
  exact hK _ kp_drw

theorem Window_ok {w : World} {d tb : Nat} {now : Int} {ts : List Tab} {a : Nat} {K : Value → World → Prop} (h : Sys w d tb now ts) (ha : a < ts.length)
    (hK : ∀ w', Kp (fun _ => False) w w' → K (.tuple #[I (now - (ts[a].att.dwell - 1)), I (now + 5 + (ts[a].att.dwell - 1)), .nilIface]) w') :
    cl Try.prog 22 #[.pointer (some ⟨d, 0, none⟩), I a] K w := by
  have n0 := h.n0
  have n1 := h.n1
  have htk := h.ok _ (List.getElem_mem ha)
  have d1 := htk.d1
  have d2 := htk.d2
  have hc0 : chk 6 now ts a now 0 1 2 = 0 := by
    unfold chk
    have edw : (ts[((a : Int)).toNat]?.map (·.att.dwell)).getD 0 = ts[a].att.dwell := by
      have : ((a : Int)).toNat = a := by omega
      rw [this, List.getElem?_eq_getElem ha]; rfl
    rw [edw, if_neg (by omega), if_neg (by omega), if_neg (by omega), if_neg]
    simp; omega
  apply c22
  unfold s22_p3
  simp only [e_fd, e_nck, e_pkt, e_pkf, e_gdtt, e_gdtf, e_gdft, e_gdff, e_ift, e_iff, e_not, e_ln, e_lnT, e_cp, e_cvi, e_ex20, e_ex21, e_ex30, e_ex31, e_ex32, e_add, e_sub, e_mul, e_quo, e_rem, e_and, e_or, e_xor, e_shl, e_shr, e_eql, e_neq, e_lss, e_leq, e_gtr, e_geq, e_beq, e_bne, e_peq1, e_peq2, e_pne1, e_pne2, e_zeq1, e_zeq2, e_zne1, e_zne2, e_feq1, e_fne1, e_feq2, e_fne2, e_seq, e_sne, e_ta1, e_ta2, Nat.zero_add, Nat.add_zero, Bool.not_true, Bool.not_false]
  refine ld1_r h.tabs.top rfl ?_
  refine check_ok (r := 2) h.tabs h.ok (by omega) (by omega) (by omega) (by omega) (by omega) (fun hc w1 hb1 => ?_) (fun hc => absurd hc0 hc)
  simp only [e_fd, e_nck, e_pkt, e_pkf, e_gdtt, e_gdtf, e_gdft, e_gdff, e_ift, e_iff, e_not, e_ln, e_lnT, e_cp, e_cvi, e_ex20, e_ex21, e_ex30, e_ex31, e_ex32, e_add, e_sub, e_mul, e_quo, e_rem, e_and, e_or, e_xor, e_shl, e_shr, e_eql, e_neq, e_lss, e_leq, e_gtr, e_geq, e_beq, e_bne, e_peq1, e_peq2, e_pne1, e_pne2, e_zeq1, e_zeq2, e_zne1, e_zne2, e_feq1, e_fne1, e_feq2, e_fne2, e_seq, e_sne, e_ta1, e_ta2, Nat.zero_add, Nat.add_zero, Bool.not_true, Bool.not_false, show ((0 : Int) != 0) = false from rfl]
  have h1 := (h.kp hb1).kp kp_drw
  have hat := h1.tabs.at ha
  have et : ((a : Int)).toNat = a := by omega
  unfold s22_p2 s22_p2_d
  simp only [e_fd, e_nck, e_pkt, e_pkf, e_gdtt, e_gdtf, e_gdft, e_gdff, e_ift, e_iff, e_not, e_ln, e_lnT, e_cp, e_cvi, e_ex20, e_ex21, e_ex30, e_ex31, e_ex32, e_add, e_sub, e_mul, e_quo, e_rem, e_and, e_or, e_xor, e_shl, e_shr, e_eql, e_neq, e_lss, e_leq, e_gtr, e_geq, e_beq, e_bne, e_peq1, e_peq2, e_pne1, e_pne2, e_zeq1, e_zeq2, e_zne1, e_zne2, e_feq1, e_fne1, e_feq2, e_fne2, e_seq, e_sne, e_ta1, e_ta2, Nat.zero_add, Nat.add_zero, Bool.not_true, Bool.not_false, et]
  refine ld1_r h1.tabs.top rfl ?_
  refine hat.fld (j := 5) (by omega) rfl ?_
  simp only [e_fd, e_nck, e_pkt, e_pkf, e_gdtt, e_gdtf, e_gdft, e_gdff, e_ift, e_iff, e_not, e_ln, e_lnT, e_cp, e_cvi, e_ex20, e_ex21, e_ex30, e_ex31, e_ex32, e_add, e_sub, e_mul, e_quo, e_rem, e_and, e_or, e_xor, e_shl, e_shr, e_eql, e_neq, e_lss, e_leq, e_gtr, e_geq, e_beq, e_bne, e_peq1, e_peq2, e_pne1, e_pne2, e_zeq1, e_zeq2, e_zne1, e_zne2, e_feq1, e_fne1, e_feq2, e_fne2, e_seq, e_sne, e_ta1, e_ta2, Nat.zero_add, Nat.add_zero, Bool.not_true, Bool.not_false]
  refine ld1_r h1.tabs.top rfl ?_
  refine ld1_r h1.tabs.top rfl ?_
  simp only [e_fd, e_nck, e_pkt, e_pkf, e_gdtt, e_gdtf, e_gdft, e_gdff, e_ift, e_iff, e_not, e_ln, e_lnT, e_cp, e_cvi, e_ex20, e_ex21, e_ex30, e_ex31, e_ex32, e_add, e_sub, e_mul, e_quo, e_rem, e_and, e_or, e_xor, e_shl, e_shr, e_eql, e_neq, e_lss, e_leq, e_gtr, e_geq, e_beq, e_bne, e_peq1, e_peq2, e_pne1, e_pne2, e_zeq1, e_zeq2, e_zne1, e_zne2, e_feq1, e_fne1, e_feq2, e_fne2, e_seq, e_sne, e_ta1, e_ta2, Nat.zero_add, Nat.add_zero, Bool.not_true, Bool.not_false]
  refine hat.fld (j := 5) (by omega) rfl ?_
  simp only [e_fd, e_nck, e_pkt, e_pkf, e_gdtt, e_gdtf, e_gdft, e_gdff, e_ift, e_iff, e_not, e_ln, e_lnT, e_cp, e_cvi, e_ex20, e_ex21, e_ex30, e_ex31, e_ex32, e_add, e_sub, e_mul, e_quo, e_rem, e_and, e_or, e_xor, e_shl, e_shr, e_eql, e_neq, e_lss, e_leq, e_gtr, e_geq, e_beq, e_bne, e_peq1, e_peq2, e_pne1, e_pne2, e_zeq1, e_zeq2, e_zne1, e_zne2, e_feq1, e_fne1, e_feq2, e_fne2, e_seq, e_sne, e_ta1, e_ta2, Nat.zero_add, Nat.add_zero, Bool.not_true, Bool.not_false]
  rw [wrap64_id (n := now + 6) (by omega) (by omega), wrap64_id (n := now + 6 - 1) (by omega) (by omega), wrap64_id (n := now - (ts[a].att.dwell - 1)) (by omega) (by omega), wrap64_id (by omega) (by omega)]
  unfold s22_p1
  have e : now + 6 - 1 = now + 5 := by omega
  rw [e]
  exact hK _ (hb1.trans kp_drw)

/-- FirstFit's code and answer -/
def ffAll (now : Int) (ts : List Tab) (attr frm to cls n : Int) : Option Int :=
  if max frm now ≤ min to (now + 5) then ffF (tabOf ts attr) (max frm now) (min to (now + 5)) cls.toNat n else none
def ffC (now : Int) (ts : List Tab) (attr frm to cls n : Int) : Int :=
  if chk 6 now ts attr now cls n 0 = 0 then (match ffAll now ts attr frm to cls n with | some _ => 0 | none => 10) else chk 6 now ts attr now cls n 0
def ffVal (now : Int) (ts : List Tab) (attr frm to cls n : Int) : Int :=
  if chk 6 now ts attr now cls n 0 = 0 then (ffAll now ts attr frm to cls n).getD 0 else 0

theorem FirstFit_ok {w : World} {d tb : Nat} {now : Int} {ts : List Tab} {attr frm to cls n : Int} {K : Value → World → Prop} (h : Sys w d tb now ts)
    (hK : ∀ w' v, ErrV w' v (ffC now ts attr frm to cls n) → Kp (fun _ => False) w w' → K (.tuple #[I (ffVal now ts attr frm to cls n), v]) w') :
    cl Try.prog 50 #[.pointer (some ⟨d, 0, none⟩), I attr, I frm, I to, I cls, I n] K w := by
  have n0 := h.n0
  have n1 := h.n1
  apply c50
  unfold s50_p4
  simp only [e_fd, e_nck, e_pkt, e_pkf, e_gdtt, e_gdtf, e_gdft, e_gdff, e_ift, e_iff, e_not, e_ln, e_lnT, e_cp, e_cvi, e_ex20, e_ex21, e_ex30, e_ex31, e_ex32, e_add, e_sub, e_mul, e_quo, e_rem, e_and, e_or, e_xor, e_shl, e_shr, e_eql, e_neq, e_lss, e_leq, e_gtr, e_geq, e_beq, e_bne, e_peq1, e_peq2, e_pne1, e_pne2, e_zeq1, e_zeq2, e_zne1, e_zne2, e_feq1, e_fne1, e_feq2, e_fne2, e_seq, e_sne, e_ta1, e_ta2, Nat.zero_add, Nat.add_zero, Bool.not_true, Bool.not_false]
  refine ld1_r h.tabs.top rfl ?_
  refine check_ok (r := 0) h.tabs h.ok (by omega) (by omega) (by omega) (by omega) (by omega) (fun hc w1 hb1 => ?_) (fun hc w1 hb1 => ?_)
  · simp only [e_fd, e_nck, e_pkt, e_pkf, e_gdtt, e_gdtf, e_gdft, e_gdff, e_ift, e_iff, e_not, e_ln, e_lnT, e_cp, e_cvi, e_ex20, e_ex21, e_ex30, e_ex31, e_ex32, e_add, e_sub, e_mul, e_quo, e_rem, e_and, e_or, e_xor, e_shl, e_shr, e_eql, e_neq, e_lss, e_leq, e_gtr, e_geq, e_beq, e_bne, e_peq1, e_peq2, e_pne1, e_pne2, e_zeq1, e_zeq2, e_zne1, e_zne2, e_feq1, e_fne1, e_feq2, e_fne2, e_seq, e_sne, e_ta1, e_ta2, Nat.zero_add, Nat.add_zero, Bool.not_true, Bool.not_false, show ((0 : Int) != 0) = false from rfl]
    unfold ffC ffVal at hK
    rw [if_pos hc, if_pos hc] at hK
    have hk := chk_ok hc
    have h1 := h.kp hb1
    refine Horizon_ok h1 fun w2 hb2 => ?_
    have h2 := h1.kp hb2
    simp only [e_fd, e_nck, e_pkt, e_pkf, e_gdtt, e_gdtf, e_gdft, e_gdff, e_ift, e_iff, e_not, e_ln, e_lnT, e_cp, e_cvi, e_ex20, e_ex21, e_ex30, e_ex31, e_ex32, e_add, e_sub, e_mul, e_quo, e_rem, e_and, e_or, e_xor, e_shl, e_shr, e_eql, e_neq, e_lss, e_leq, e_gtr, e_geq, e_beq, e_bne, e_peq1, e_peq2, e_pne1, e_pne2, e_zeq1, e_zeq2, e_zne1, e_zne2, e_feq1, e_fne1, e_feq2, e_fne2, e_seq, e_sne, e_ta1, e_ta2, Nat.zero_add, Nat.add_zero, Bool.not_true, Bool.not_false]
    have kk : Kp (fun _ => False) w w2 := hb1.trans hb2
    have fail : ffAll now ts attr frm to cls n = none → ∀ (w' : World) (f : Int), Kp (fun _ => False) w w' → s50_p1 K (I attr) (I f) (I cls) (I n) w' := by
      intro hn w' f hw'
      rw [hn] at hK
      unfold s50_p1
      exact result_ok fun w3 v hv hb3 => hK w3 v hv (hw'.trans hb3)
    have run : ∀ f t : Int, f = max frm now → t = min to (now + 5) → s50_p2 K (I attr) (I f) (I t) (I cls) (I n) (.pointer (some ⟨tb, attr.toNat * 9, none⟩)) w2 := by
      intro f t ef et
      unfold s50_p2
      simp only [e_fd, e_nck, e_pkt, e_pkf, e_gdtt, e_gdtf, e_gdft, e_gdff, e_ift, e_iff, e_not, e_ln, e_lnT, e_cp, e_cvi, e_ex20, e_ex21, e_ex30, e_ex31, e_ex32, e_add, e_sub, e_mul, e_quo, e_rem, e_and, e_or, e_xor, e_shl, e_shr, e_eql, e_neq, e_lss, e_leq, e_gtr, e_geq, e_beq, e_bne, e_peq1, e_peq2, e_pne1, e_pne2, e_zeq1, e_zeq2, e_zne1, e_zne2, e_feq1, e_fne1, e_feq2, e_fne2, e_seq, e_sne, e_ta1, e_ta2, Nat.zero_add, Nat.add_zero, Bool.not_true, Bool.not_false]
      by_cases hle : f ≤ t
      · simp only [hle, decide_true, e_fd, e_nck, e_pkt, e_pkf, e_gdtt, e_gdtf, e_gdft, e_gdff, e_ift, e_iff, e_not, e_ln, e_lnT, e_cp, e_cvi, e_ex20, e_ex21, e_ex30, e_ex31, e_ex32, e_add, e_sub, e_mul, e_quo, e_rem, e_and, e_or, e_xor, e_shl, e_shr, e_eql, e_neq, e_lss, e_leq, e_gtr, e_geq, e_beq, e_bne, e_peq1, e_peq2, e_pne1, e_pne2, e_zeq1, e_zeq2, e_zne1, e_zne2, e_feq1, e_fne1, e_feq2, e_fne2, e_seq, e_sne, e_ta1, e_ta2, Nat.zero_add, Nat.add_zero, Bool.not_true, Bool.not_false]
        have eall : ffAll now ts attr frm to cls n = ffF (tabOf ts attr) f t cls.toNat n := by unfold ffAll; rw [← ef, ← et, if_pos hle]
        rw [eall, tabOf_eq hk.2.1] at fail
        rw [eall, tabOf_eq hk.2.1] at hK
        have htk := h.ok _ (List.getElem_mem hk.2.1)
        have hts := h.sm _ (List.getElem_mem hk.2.1)
        have ec : cls = ((cls.toNat : Nat) : Int) := by omega
        have hcn : cls.toNat < 3 := by omega
        rw [ec]
        refine firstFit_ok (h2.tabs.at hk.2.1) htk hts hcn hk.2.2.2.2 (by omega) hle (by omega) fun w3 hb3 => ?_
        cases hff : ffF ts[attr.toNat] f t cls.toNat n with
        | none =>
          unfold ffAns
          simp only [e_fd, e_nck, e_pkt, e_pkf, e_gdtt, e_gdtf, e_gdft, e_gdff, e_ift, e_iff, e_not, e_ln, e_lnT, e_cp, e_cvi, e_ex20, e_ex21, e_ex30, e_ex31, e_ex32, e_add, e_sub, e_mul, e_quo, e_rem, e_and, e_or, e_xor, e_shl, e_shr, e_eql, e_neq, e_lss, e_leq, e_gtr, e_geq, e_beq, e_bne, e_peq1, e_peq2, e_pne1, e_pne2, e_zeq1, e_zeq2, e_zne1, e_zne2, e_feq1, e_fne1, e_feq2, e_fne2, e_seq, e_sne, e_ta1, e_ta2, Nat.zero_add, Nat.add_zero, Bool.not_true, Bool.not_false]
          rw [← ec]
          exact fail hff w3 f (kk.trans hb3)
        | some s =>
          unfold ffAns
          simp only [e_fd, e_nck, e_pkt, e_pkf, e_gdtt, e_gdtf, e_gdft, e_gdff, e_ift, e_iff, e_not, e_ln, e_lnT, e_cp, e_cvi, e_ex20, e_ex21, e_ex30, e_ex31, e_ex32, e_add, e_sub, e_mul, e_quo, e_rem, e_and, e_or, e_xor, e_shl, e_shr, e_eql, e_neq, e_lss, e_leq, e_gtr, e_geq, e_beq, e_bne, e_peq1, e_peq2, e_pne1, e_pne2, e_zeq1, e_zeq2, e_zne1, e_zne2, e_feq1, e_fne1, e_feq2, e_fne2, e_seq, e_sne, e_ta1, e_ta2, Nat.zero_add, Nat.add_zero, Bool.not_true, Bool.not_false]
          rw [hff] at hK
          exact hK w3 _ (.inl ⟨rfl, rfl⟩) (kk.trans hb3)
      · simp only [hle, decide_false, e_fd, e_nck, e_pkt, e_pkf, e_gdtt, e_gdtf, e_gdft, e_gdff, e_ift, e_iff, e_not, e_ln, e_lnT, e_cp, e_cvi, e_ex20, e_ex21, e_ex30, e_ex31, e_ex32, e_add, e_sub, e_mul, e_quo, e_rem, e_and, e_or, e_xor, e_shl, e_shr, e_eql, e_neq, e_lss, e_leq, e_gtr, e_geq, e_beq, e_bne, e_peq1, e_peq2, e_pne1, e_pne2, e_zeq1, e_zeq2, e_zne1, e_zne2, e_feq1, e_fne1, e_feq2, e_fne2, e_seq, e_sne, e_ta1, e_ta2, Nat.zero_add, Nat.add_zero, Bool.not_true, Bool.not_false]
        refine fail ?_ w2 f kk
        unfold ffAll; rw [← ef, ← et, if_neg hle]
    have run3 : ∀ f : Int, f = max frm now → s50_p3 K (I attr) (I f) (I to) (I cls) (I n) (.pointer (some ⟨tb, attr.toNat * 9, none⟩)) (I (now + 5)) w2 := by
      intro f ef
      unfold s50_p3
      simp only [e_fd, e_nck, e_pkt, e_pkf, e_gdtt, e_gdtf, e_gdft, e_gdff, e_ift, e_iff, e_not, e_ln, e_lnT, e_cp, e_cvi, e_ex20, e_ex21, e_ex30, e_ex31, e_ex32, e_add, e_sub, e_mul, e_quo, e_rem, e_and, e_or, e_xor, e_shl, e_shr, e_eql, e_neq, e_lss, e_leq, e_gtr, e_geq, e_beq, e_bne, e_peq1, e_peq2, e_pne1, e_pne2, e_zeq1, e_zeq2, e_zne1, e_zne2, e_feq1, e_fne1, e_feq2, e_fne2, e_seq, e_sne, e_ta1, e_ta2, Nat.zero_add, Nat.add_zero, Bool.not_true, Bool.not_false]
      by_cases hle : now + 5 < to
      · simp only [hle, decide_true, e_fd, e_nck, e_pkt, e_pkf, e_gdtt, e_gdtf, e_gdft, e_gdff, e_ift, e_iff, e_not, e_ln, e_lnT, e_cp, e_cvi, e_ex20, e_ex21, e_ex30, e_ex31, e_ex32, e_add, e_sub, e_mul, e_quo, e_rem, e_and, e_or, e_xor, e_shl, e_shr, e_eql, e_neq, e_lss, e_leq, e_gtr, e_geq, e_beq, e_bne, e_peq1, e_peq2, e_pne1, e_pne2, e_zeq1, e_zeq2, e_zne1, e_zne2, e_feq1, e_fne1, e_feq2, e_fne2, e_seq, e_sne, e_ta1, e_ta2, Nat.zero_add, Nat.add_zero, Bool.not_true, Bool.not_false]
        exact run f _ ef (by omega)
      · simp only [hle, decide_false, e_fd, e_nck, e_pkt, e_pkf, e_gdtt, e_gdtf, e_gdft, e_gdff, e_ift, e_iff, e_not, e_ln, e_lnT, e_cp, e_cvi, e_ex20, e_ex21, e_ex30, e_ex31, e_ex32, e_add, e_sub, e_mul, e_quo, e_rem, e_and, e_or, e_xor, e_shl, e_shr, e_eql, e_neq, e_lss, e_leq, e_gtr, e_geq, e_beq, e_bne, e_peq1, e_peq2, e_pne1, e_pne2, e_zeq1, e_zeq2, e_zne1, e_zne2, e_feq1, e_fne1, e_feq2, e_fne2, e_seq, e_sne, e_ta1, e_ta2, Nat.zero_add, Nat.add_zero, Bool.not_true, Bool.not_false]
        exact run f _ ef (by omega)
    by_cases hlt : frm < now
    · simp only [hlt, decide_true, e_fd, e_nck, e_pkt, e_pkf, e_gdtt, e_gdtf, e_gdft, e_gdff, e_ift, e_iff, e_not, e_ln, e_lnT, e_cp, e_cvi, e_ex20, e_ex21, e_ex30, e_ex31, e_ex32, e_add, e_sub, e_mul, e_quo, e_rem, e_and, e_or, e_xor, e_shl, e_shr, e_eql, e_neq, e_lss, e_leq, e_gtr, e_geq, e_beq, e_bne, e_peq1, e_peq2, e_pne1, e_pne2, e_zeq1, e_zeq2, e_zne1, e_zne2, e_feq1, e_fne1, e_feq2, e_fne2, e_seq, e_sne, e_ta1, e_ta2, Nat.zero_add, Nat.add_zero, Bool.not_true, Bool.not_false]
      exact run3 _ (by omega)
    · simp only [hlt, decide_false, e_fd, e_nck, e_pkt, e_pkf, e_gdtt, e_gdtf, e_gdft, e_gdff, e_ift, e_iff, e_not, e_ln, e_lnT, e_cp, e_cvi, e_ex20, e_ex21, e_ex30, e_ex31, e_ex32, e_add, e_sub, e_mul, e_quo, e_rem, e_and, e_or, e_xor, e_shl, e_shr, e_eql, e_neq, e_lss, e_leq, e_gtr, e_geq, e_beq, e_bne, e_peq1, e_peq2, e_pne1, e_pne2, e_zeq1, e_zeq2, e_zne1, e_zne2, e_feq1, e_fne1, e_feq2, e_fne2, e_seq, e_sne, e_ta1, e_ta2, Nat.zero_add, Nat.add_zero, Bool.not_true, Bool.not_false]
      exact run3 _ (by omega)
  · have e : (chk 6 now ts attr now cls n 0 != 0) = true := by simpa using hc
    unfold ffC ffVal at hK
    rw [if_neg hc, if_neg hc] at hK
    simp only [e_fd, e_nck, e_pkt, e_pkf, e_gdtt, e_gdtf, e_gdft, e_gdff, e_ift, e_iff, e_not, e_ln, e_lnT, e_cp, e_cvi, e_ex20, e_ex21, e_ex30, e_ex31, e_ex32, e_add, e_sub, e_mul, e_quo, e_rem, e_and, e_or, e_xor, e_shl, e_shr, e_eql, e_neq, e_lss, e_leq, e_gtr, e_geq, e_beq, e_bne, e_peq1, e_peq2, e_pne1, e_pne2, e_zeq1, e_zeq2, e_zne1, e_zne2, e_feq1, e_fne1, e_feq2, e_fne2, e_seq, e_sne, e_ta1, e_ta2, Nat.zero_add, Nat.add_zero, Bool.not_true, Bool.not_false, e]
    exact result_ok fun w3 v hv hb3 => hK w3 v hv (hb1.trans hb3)

theorem CellOf_ok {w : World} {d tb : Nat} {now : Int} {ts : List Tab} {a : Nat} {s : Int} {K : Value → World → Prop} (h : Sys w d tb now ts) (ha : a < ts.length)
    (s0 : now - (ts[a].att.dwell - 1) ≤ s) (s1 : s ≤ now + 5 + (ts[a].att.dwell - 1))
    (hK : ∀ w', Kp (fun _ => False) w w' → K (.tuple #[I (ps ts[a] s % ts[a].occ.length : Nat), I ts[a].occ.length, .nilIface]) w') :
    cl Try.prog 30 #[.pointer (some ⟨d, 0, none⟩), I a, I s] K w := by
  have n0 := h.n0
  have n1 := h.n1
  have htk := h.ok _ (List.getElem_mem ha)
  have d1 := htk.d1
  have d2 := htk.d2
  have et : ((a : Int)).toNat = a := by omega
  have hc0 : chk 6 now ts a s 0 1 2 = 0 := by
    unfold chk
    have edw : (ts[((a : Int)).toNat]?.map (·.att.dwell)).getD 0 = ts[a].att.dwell := by
      rw [et, List.getElem?_eq_getElem ha]; rfl
    rw [edw, if_neg (by omega), if_neg (by omega), if_neg (by omega), if_neg]
    simp; omega
  apply c30
  unfold s30_p3
  refine check_ok (r := 2) h.tabs h.ok (by omega) (by omega) (by omega) (by omega) (by omega) (fun hc w1 hb1 => ?_) (fun hc => absurd hc0 hc)
  simp only [e_fd, e_nck, e_pkt, e_pkf, e_gdtt, e_gdtf, e_gdft, e_gdff, e_ift, e_iff, e_not, e_ln, e_lnT, e_cp, e_cvi, e_ex20, e_ex21, e_ex30, e_ex31, e_ex32, e_add, e_sub, e_mul, e_quo, e_rem, e_and, e_or, e_xor, e_shl, e_shr, e_eql, e_neq, e_lss, e_leq, e_gtr, e_geq, e_beq, e_bne, e_peq1, e_peq2, e_pne1, e_pne2, e_zeq1, e_zeq2, e_zne1, e_zne2, e_feq1, e_fne1, e_feq2, e_fne2, e_seq, e_sne, e_ta1, e_ta2, Nat.zero_add, Nat.add_zero, Bool.not_true, Bool.not_false, show ((0 : Int) != 0) = false from rfl]
  have hat := ((h.kp hb1).kp kp_drw).tabs.at ha
  unfold s30_p2 s30_p2_d
  simp only [e_fd, e_nck, e_pkt, e_pkf, e_gdtt, e_gdtf, e_gdft, e_gdff, e_ift, e_iff, e_not, e_ln, e_lnT, e_cp, e_cvi, e_ex20, e_ex21, e_ex30, e_ex31, e_ex32, e_add, e_sub, e_mul, e_quo, e_rem, e_and, e_or, e_xor, e_shl, e_shr, e_eql, e_neq, e_lss, e_leq, e_gtr, e_geq, e_beq, e_bne, e_peq1, e_peq2, e_pne1, e_pne2, e_zeq1, e_zeq2, e_zne1, e_zne2, e_feq1, e_fne1, e_feq2, e_fne2, e_seq, e_sne, e_ta1, e_ta2, Nat.zero_add, Nat.add_zero, Bool.not_true, Bool.not_false, et]
  refine hat.fld (j := 6) (by omega) rfl ?_
  refine cell_ok hat htk (by omega) (by omega) fun w2 hb2 => ⟨hb2.below', hb2.below', ?_⟩
  unfold s30_p1
  exact hK w2 ((hb1.trans kp_drw).trans hb2)
end Go.Proofs.Qxb6500897a
