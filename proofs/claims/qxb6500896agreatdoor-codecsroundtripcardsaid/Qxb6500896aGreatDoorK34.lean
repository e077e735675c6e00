import Derived.Test.Qxb6500896aGreatDoorK33
namespace Go.Proofs.Qxb6500896aGreatDoor
open Go.Sh Go.RowKit
set_option linter.unusedVariables false
set_option linter.unusedSimpArgs false

def tHoldR (C : Cfg) (now cls sz : Int) (ls : List Leg) (rs : List Rec) : Rec := if tCheck C cls sz ls rs = 0 then ⟨((rs.length + 1 : Nat) : Int), 1, cls, sz, 0, now + C.ht, ls⟩ else zRec
set_option maxRecDepth 100000 in
theorem fiRec0 : fiK Tryz.prog 66 0 = some 0 := by kernel_rfl
section
variable {F G M M' S : Nat → Prop} {w w' w1 : World} {v lv rv : Value} {t b i : Nat} {rob : Option Nat} {C : Cfg} {rs : List Rec} {K : Value → World → Prop} {ls : List Leg} {now id cls sz attr : Int} {r : Rec}
/-- a variable of one's own is counted among what is written -/
theorem Tb.var (h : Tb M w t rob C rs) {c : Nat} (hk : Kp Emp w w1) (h1 : w.heap.size ≤ c) (h2 : c < w1.heap.size) : Ext M (fun b => M b ∨ b = c) w w1 ∧ Tb (fun b => M b ∨ b = c) w1 t rob C rs :=
  have hx := Ext.add h.lt hk h1 h2
  ⟨hx, h.ext hx hk (fun _ q => q.elim) (fun _ _ q => q)⟩
/-- legs that are asked about -/
structure LO (C : Cfg) (now : Int) (ls : List Leg) : Prop where
  ll : ls.length ≤ 8
  lv : LV C ls
  ho : ∀ l ∈ ls, now ≤ l.s ∧ l.s < now + C.hz
theorem check_ok (cv : CV C) (hT : TI C rs) (h : Tb M w t rob C rs) (hl : Ar lC 2 G w lv ls) (hlo : LO C now ls) (hc : 0 ≤ cls ∧ cls < 3) (hs : 0 ≤ sz ∧ sz ≤ 1073741824) (hn : 0 ≤ now ∧ now ≤ 4398046511104)
    (hK : ∀ w', Kp Emp w w' → K (I (tCheck C cls sz ls rs)) w') : cl Tryz.prog 159 #[P t 0, I now, I cls, I sz, lv] K w := by
  unfold tCheck at hK
  apply c159
  unfold s159_p3 s159_p2 s159_p2_d
  have kd : Kp Emp w (drw w) := kp_drw
  generalize drw w = w0 at kd ⊢
  have h0 := h.kp' kd
  obtain ⟨cl, rv, r, hcg, hrr⟩ := h0.ex
  obtain ⟨va, vt, rfl, _⟩ := hcg.ex
  try simp only [e_fd, e_nck, e_pkt, e_pkf, e_gdtt, e_gdtf, e_gdft, e_gdff, e_ift, e_iff, e_not, e_ln, e_lnT, e_cp, e_cvi, e_ex20, e_ex21, e_ex30, e_ex31, e_ex32, e_add, e_sub, e_mul, e_quo, e_rem, e_and, e_or, e_xor, e_shl, e_shr, e_eql, e_neq, e_lss, e_leq, e_gtr, e_geq, e_beq, e_bne, e_peq1, e_peq2, e_pne1, e_pne2, e_zeq1, e_zeq2, e_zne1, e_zne2, e_feq1, e_fne1, e_feq2, e_fne2, e_seq, e_sne, e_ta1, e_ta2, Nat.zero_add, Nat.add_zero, Bool.not_true, Bool.not_false]
  refine ld1_r (v := rv) r rfl ?_
  refine hrr.ln ?_
  try simp only [e_fd, e_nck, e_pkt, e_pkf, e_gdtt, e_gdtf, e_gdft, e_gdff, e_ift, e_iff, e_not, e_ln, e_lnT, e_cp, e_cvi, e_ex20, e_ex21, e_ex30, e_ex31, e_ex32, e_add, e_sub, e_mul, e_quo, e_rem, e_and, e_or, e_xor, e_shl, e_shr, e_eql, e_neq, e_lss, e_leq, e_gtr, e_geq, e_beq, e_bne, e_peq1, e_peq2, e_pne1, e_pne2, e_zeq1, e_zeq2, e_zne1, e_zne2, e_feq1, e_fne1, e_feq2, e_fne2, e_seq, e_sne, e_ta1, e_ta2, Nat.zero_add, Nat.add_zero, Bool.not_true, Bool.not_false]
  refine ld1_r (v := I C.mb) r rfl ?_
  try simp only [e_fd, e_nck, e_pkt, e_pkf, e_gdtt, e_gdtf, e_gdft, e_gdff, e_ift, e_iff, e_not, e_ln, e_lnT, e_cp, e_cvi, e_ex20, e_ex21, e_ex30, e_ex31, e_ex32, e_add, e_sub, e_mul, e_quo, e_rem, e_and, e_or, e_xor, e_shl, e_shr, e_eql, e_neq, e_lss, e_leq, e_gtr, e_geq, e_beq, e_bne, e_peq1, e_peq2, e_pne1, e_pne2, e_zeq1, e_zeq2, e_zne1, e_zne2, e_feq1, e_fne1, e_feq2, e_fne2, e_seq, e_sne, e_ta1, e_ta2, Nat.zero_add, Nat.add_zero, Bool.not_true, Bool.not_false]
  unfold s159_p1
  by_cases h1 : C.mb ≤ ((rs.length : Nat) : Int)
  · rw [if_pos h1] at hK
    simp only [h1, decide_true, e_fd, e_nck, e_pkt, e_pkf, e_gdtt, e_gdtf, e_gdft, e_gdff, e_ift, e_iff, e_not, e_ln, e_lnT, e_cp, e_cvi, e_ex20, e_ex21, e_ex30, e_ex31, e_ex32, e_add, e_sub, e_mul, e_quo, e_rem, e_and, e_or, e_xor, e_shl, e_shr, e_eql, e_neq, e_lss, e_leq, e_gtr, e_geq, e_beq, e_bne, e_peq1, e_peq2, e_pne1, e_pne2, e_zeq1, e_zeq2, e_zne1, e_zne2, e_feq1, e_fne1, e_feq2, e_fne2, e_seq, e_sne, e_ta1, e_ta2, Nat.zero_add, Nat.add_zero, Bool.not_true, Bool.not_false]
    exact hK w0 kd
  · rw [if_neg h1] at hK
    simp only [h1, decide_false, e_fd, e_nck, e_pkt, e_pkf, e_gdtt, e_gdtf, e_gdft, e_gdff, e_ift, e_iff, e_not, e_ln, e_lnT, e_cp, e_cvi, e_ex20, e_ex21, e_ex30, e_ex31, e_ex32, e_add, e_sub, e_mul, e_quo, e_rem, e_and, e_or, e_xor, e_shl, e_shr, e_eql, e_neq, e_lss, e_leq, e_gtr, e_geq, e_beq, e_bne, e_peq1, e_peq2, e_pne1, e_pne2, e_zeq1, e_zeq2, e_zne1, e_zne2, e_feq1, e_fne1, e_feq2, e_fne2, e_seq, e_sne, e_ta1, e_ta2, Nat.zero_add, Nat.add_zero, Bool.not_true, Bool.not_false]
    exact fits_ok cv h0.tr hT.rb (hl.kp' kd) hlo.ll hlo.lv hc hs hn hlo.ho fun w1 k1 => hK w1 (kd.trans k1)
theorem hold_ok (cv : CV C) (hT : TI C rs) (h : Tb M w t rob C rs) (hl : Ar lC 2 G w lv ls) (hlo : LO C now ls) (hc : 0 ≤ cls ∧ cls < 3) (hs : 0 ≤ sz ∧ sz ≤ 1073741824) (hn : 0 ≤ now ∧ now ≤ 1099511627776)
    (hK : ∀ w' M' rob' lv', Ext M M' w w' → Kp (OwnT t rob) w w' → (∀ b, OwnT t rob' b → OwnT t rob b ∨ w.heap.size ≤ b) → Tb M' w' t rob' C (tHold C now cls sz ls rs).1 → scal lv' = true → K (.tuple #[.agg (rC (tHoldR C now cls sz ls rs, lv')).toArray, I (tHold C now cls sz ls rs).2]) w') :
    cl Tryz.prog 139 #[P t 0, I now, I cls, I sz, lv] K w := by
  have ht := cv.ht
  have hmb := cv.mb
  unfold tHold tHoldR at hK
  apply c139
  unfold s139_p1
  refine nw_r fun w1 r1 hk1 hz1 => ?_
  replace r1 : Row w1 w.heap.size 66 (rC (zRec, nilS)) := r1
  have h1 := h.kp' hk1
  refine check_ok cv hT h1 (hl.kp' hk1) hlo hc hs ⟨by omega, by omega⟩ fun w2 hk2 => ?_
  have k2 := hk1.trans hk2
  have h2 := h.kp' k2
  have r2 := hk2.row' r1
  have sz2 := hk2.size
  try simp only [e_fd, e_nck, e_pkt, e_pkf, e_gdtt, e_gdtf, e_gdft, e_gdff, e_ift, e_iff, e_not, e_ln, e_lnT, e_cp, e_cvi, e_ex20, e_ex21, e_ex30, e_ex31, e_ex32, e_add, e_sub, e_mul, e_quo, e_rem, e_and, e_or, e_xor, e_shl, e_shr, e_eql, e_neq, e_lss, e_leq, e_gtr, e_geq, e_beq, e_bne, e_peq1, e_peq2, e_pne1, e_pne2, e_zeq1, e_zeq2, e_zne1, e_zne2, e_feq1, e_fne1, e_feq2, e_fne2, e_seq, e_sne, e_ta1, e_ta2, Nat.zero_add, Nat.add_zero, Bool.not_true, Bool.not_false]
  by_cases hq : tCheck C cls sz ls rs = 0
  · rw [if_pos hq, if_pos hq] at hK
    have hlen : rs.length < 16777216 := by
      unfold tCheck at hq
      split at hq
      · omega
      · omega
    rw [bne_f hq]
    obtain ⟨cl, rv, r, hcg, hrr⟩ := h2.ex
    obtain ⟨va, vt, rfl, _⟩ := hcg.ex
    try simp only [e_fd, e_nck, e_pkt, e_pkf, e_gdtt, e_gdtf, e_gdft, e_gdff, e_ift, e_iff, e_not, e_ln, e_lnT, e_cp, e_cvi, e_ex20, e_ex21, e_ex30, e_ex31, e_ex32, e_add, e_sub, e_mul, e_quo, e_rem, e_and, e_or, e_xor, e_shl, e_shr, e_eql, e_neq, e_lss, e_leq, e_gtr, e_geq, e_beq, e_bne, e_peq1, e_peq2, e_pne1, e_pne2, e_zeq1, e_zeq2, e_zne1, e_zne2, e_feq1, e_fne1, e_feq2, e_fne2, e_seq, e_sne, e_ta1, e_ta2, Nat.zero_add, Nat.add_zero, Bool.not_true, Bool.not_false]
    refine ld1_r (v := I C.ht) r rfl ?_
    try simp only [e_fd, e_nck, e_pkt, e_pkf, e_gdtt, e_gdtf, e_gdft, e_gdff, e_ift, e_iff, e_not, e_ln, e_lnT, e_cp, e_cvi, e_ex20, e_ex21, e_ex30, e_ex31, e_ex32, e_add, e_sub, e_mul, e_quo, e_rem, e_and, e_or, e_xor, e_shl, e_shr, e_eql, e_neq, e_lss, e_leq, e_gtr, e_geq, e_beq, e_bne, e_peq1, e_peq2, e_pne1, e_pne2, e_zeq1, e_zeq2, e_zne1, e_zne2, e_feq1, e_fne1, e_feq2, e_fne2, e_seq, e_sne, e_ta1, e_ta2, Nat.zero_add, Nat.add_zero, Bool.not_true, Bool.not_false]
    rw [wrap64_id (by omega) (by omega)]
    obtain ⟨a, cap, rfl⟩ := hl.form
    refine bdq_r (l := rC (⟨0, 1, cls, sz, 0, now + C.ht, ls⟩, .slice a ls.length cap)) rfl ?_
    obtain ⟨hx2, hv2⟩ := h.var (c := w.heap.size) k2 (Nat.le_refl _) (by omega)
    refine grant_ok (r := ⟨0, 1, cls, sz, 0, now + C.ht, ls⟩) hv2 (hl.kp' k2) (by have := hlo.ll; simp only; omega) hlen fun w3 M3 rob3 lv3 hx3 hk3 ho3 tb3 hs3 => ?_
    have own3 : ∀ b, OwnT t rob3 b → ¬ b = w.heap.size := fun b q e => by
      rcases ho3 b q with q | q
      · have := h.lt b (h.own q); omega
      · omega
    have r3 : Row w3 w.heap.size 66 (rC (zRec, nilS)) := hk3.row r2 (fun q => by have := h.lt _ (h.own q); omega)
    refine stn_r (cs := rC (⟨((rs.length + 1 : Nat) : Int), 1, cls, sz, 0, now + C.ht, ls⟩, lv3)) r3 rfl (show 0 + 7 ≤ 7 by decide) (rC_sc hs3) fun w4 r4 hk4 hz4 => ?_
    replace r4 : Row w4 w.heap.size 66 (rC (⟨((rs.length + 1 : Nat) : Int), 1, cls, sz, 0, now + C.ht, ls⟩, lv3)) := r4
    refine ldn_r r4 (show 0 + 7 ≤ 7 by decide) ?_
    have hx4 := Ext.same tb3.lt hk4
    refine hK w4 M3 rob3 lv3 ((hx2.trans hx3).trans hx4) ((k2.none.trans hk3).then hk4 fun k hk (q : k = _) => by omega) (fun b q => (ho3 b q).imp (fun q => q) fun q => by omega) (tb3.ext hx4 hk4 (fun b q _ => hx3.sub b (.inr q)) own3) hs3
  · rw [if_neg hq, if_neg hq] at hK
    rw [bne_t hq]
    try simp only [e_fd, e_nck, e_pkt, e_pkf, e_gdtt, e_gdtf, e_gdft, e_gdff, e_ift, e_iff, e_not, e_ln, e_lnT, e_cp, e_cvi, e_ex20, e_ex21, e_ex30, e_ex31, e_ex32, e_add, e_sub, e_mul, e_quo, e_rem, e_and, e_or, e_xor, e_shl, e_shr, e_eql, e_neq, e_lss, e_leq, e_gtr, e_geq, e_beq, e_bne, e_peq1, e_peq2, e_pne1, e_pne2, e_zeq1, e_zeq2, e_zne1, e_zne2, e_feq1, e_fne1, e_feq2, e_fne2, e_seq, e_sne, e_ta1, e_ta2, Nat.zero_add, Nat.add_zero, Bool.not_true, Bool.not_false]
    refine bdq_r (l := rC (zRec, nilS)) rfl ?_
    refine stn_r (cs := rC (zRec, nilS)) r2 rfl (show 0 + 7 ≤ 7 by decide) rfl fun w3 r3 hk3 hz3 => ?_
    replace r3 : Row w3 w.heap.size 66 (rC (zRec, nilS)) := r3
    refine ldn_r r3 (show 0 + 7 ≤ 7 by decide) ?_
    have k3 : Kp Emp w w3 := k2.then hk3 fun k hk (q : k = _) => by omega
    exact hK w3 M rob nilS (Ext.same h.lt k3) k3.none (fun b q => .inl q) (h.kp' k3) rfl
theorem enroll_ok (cv : CV C) (h : Tb M w t rob C rs) (ha : 0 ≤ attr ∧ attr ≤ 1099511627776)
    (hK : TbK M w t rob C (tEnroll C attr cls sz rs).1 (K (.tuple #[I (if (tEnroll C attr cls sz rs).2 = 0 then ((rs.length + 1 : Nat) : Int) else 0), I (tEnroll C attr cls sz rs).2]))) : cl Tryz.prog 161 #[P t 0, I attr, I cls, I sz] K w := by
  have hmb := cv.mb
  unfold tEnroll at hK
  apply c161
  unfold s161_p3 s161_p2 s161_p2_d
  have kd : Kp Emp w (drw w) := kp_drw
  generalize drw w = w0 at kd ⊢
  have h0 := h.kp' kd
  obtain ⟨cl, rv, r, hcg, hrr⟩ := h0.ex
  obtain ⟨va, vt, rfl, _⟩ := hcg.ex
  try simp only [e_fd, e_nck, e_pkt, e_pkf, e_gdtt, e_gdtf, e_gdft, e_gdff, e_ift, e_iff, e_not, e_ln, e_lnT, e_cp, e_cvi, e_ex20, e_ex21, e_ex30, e_ex31, e_ex32, e_add, e_sub, e_mul, e_quo, e_rem, e_and, e_or, e_xor, e_shl, e_shr, e_eql, e_neq, e_lss, e_leq, e_gtr, e_geq, e_beq, e_bne, e_peq1, e_peq2, e_pne1, e_pne2, e_zeq1, e_zeq2, e_zne1, e_zne2, e_feq1, e_fne1, e_feq2, e_fne2, e_seq, e_sne, e_ta1, e_ta2, Nat.zero_add, Nat.add_zero, Bool.not_true, Bool.not_false]
  refine ld1_r (v := rv) r rfl ?_
  refine hrr.ln ?_
  try simp only [e_fd, e_nck, e_pkt, e_pkf, e_gdtt, e_gdtf, e_gdft, e_gdff, e_ift, e_iff, e_not, e_ln, e_lnT, e_cp, e_cvi, e_ex20, e_ex21, e_ex30, e_ex31, e_ex32, e_add, e_sub, e_mul, e_quo, e_rem, e_and, e_or, e_xor, e_shl, e_shr, e_eql, e_neq, e_lss, e_leq, e_gtr, e_geq, e_beq, e_bne, e_peq1, e_peq2, e_pne1, e_pne2, e_zeq1, e_zeq2, e_zne1, e_zne2, e_feq1, e_fne1, e_feq2, e_fne2, e_seq, e_sne, e_ta1, e_ta2, Nat.zero_add, Nat.add_zero, Bool.not_true, Bool.not_false]
  refine ld1_r (v := I C.mb) r rfl ?_
  try simp only [e_fd, e_nck, e_pkt, e_pkf, e_gdtt, e_gdtf, e_gdft, e_gdff, e_ift, e_iff, e_not, e_ln, e_lnT, e_cp, e_cvi, e_ex20, e_ex21, e_ex30, e_ex31, e_ex32, e_add, e_sub, e_mul, e_quo, e_rem, e_and, e_or, e_xor, e_shl, e_shr, e_eql, e_neq, e_lss, e_leq, e_gtr, e_geq, e_beq, e_bne, e_peq1, e_peq2, e_pne1, e_pne2, e_zeq1, e_zeq2, e_zne1, e_zne2, e_feq1, e_fne1, e_feq2, e_fne2, e_seq, e_sne, e_ta1, e_ta2, Nat.zero_add, Nat.add_zero, Bool.not_true, Bool.not_false]
  unfold s161_p1
  by_cases h1 : C.mb ≤ ((rs.length : Nat) : Int)
  · rw [if_pos h1] at hK
    simp only [h1, decide_true, e_fd, e_nck, e_pkt, e_pkf, e_gdtt, e_gdtf, e_gdft, e_gdff, e_ift, e_iff, e_not, e_ln, e_lnT, e_cp, e_cvi, e_ex20, e_ex21, e_ex30, e_ex31, e_ex32, e_add, e_sub, e_mul, e_quo, e_rem, e_and, e_or, e_xor, e_shl, e_shr, e_eql, e_neq, e_lss, e_leq, e_gtr, e_geq, e_beq, e_bne, e_peq1, e_peq2, e_pne1, e_pne2, e_zeq1, e_zeq2, e_zne1, e_zne2, e_feq1, e_fne1, e_feq2, e_fne2, e_seq, e_sne, e_ta1, e_ta2, Nat.zero_add, Nat.add_zero, Bool.not_true, Bool.not_false]
    exact h.same hK kd
  · rw [if_neg h1] at hK
    simp only [h1, decide_false, e_fd, e_nck, e_pkt, e_pkf, e_gdtt, e_gdtf, e_gdft, e_gdff, e_ift, e_iff, e_not, e_ln, e_lnT, e_cp, e_cvi, e_ex20, e_ex21, e_ex30, e_ex31, e_ex32, e_add, e_sub, e_mul, e_quo, e_rem, e_and, e_or, e_xor, e_shl, e_shr, e_eql, e_neq, e_lss, e_leq, e_gtr, e_geq, e_beq, e_bne, e_peq1, e_peq2, e_pne1, e_pne2, e_zeq1, e_zeq2, e_zne1, e_zne2, e_feq1, e_fne1, e_feq2, e_fne2, e_seq, e_sne, e_ta1, e_ta2, Nat.zero_add, Nat.add_zero, Bool.not_true, Bool.not_false]
    rw [wrap64_id (by omega) (by omega)]
    refine bdq_r (l := rC (⟨0, 7, cls, sz, attr + 1, 0, []⟩, nilS)) rfl ?_
    refine grant_ok (r := ⟨0, 7, cls, sz, attr + 1, 0, []⟩) (F := Emp) h0 Ar.nil (by simp) (by omega) fun w3 M3 rob3 lv3 hx3 hk3 ho3 tb3 hs3 => ?_
    have := h.tw hK kd w3 M3 rob3 hx3 hk3 ho3 tb3
    refine fi_r (o := 0) fiRec0 rfl ?_
    exact this
theorem rebook_ok (cv : CV C) (hT : TI C rs) (h : Tb M w t rob C rs) (hl : Ar lC 2 G w lv ls) (hG : ∀ b, G b → b < w.heap.size) (hlo : LO C now ls) (hid : 0 ≤ id ∧ id ≤ 9223372036854775807) (hn : 0 ≤ now ∧ now ≤ 1099511627776)
    (hK : TbK M w t rob C (tRebook C id ls rs).1 (K (I (tRebook C id ls rs).2))) : cl Tryz.prog 122 #[P t 0, I now, I id, lv] K w := by
  unfold tRebook at hK
  apply c122
  unfold s122_p3
  refine find2 hid h (fun hno => ?_) fun i b hi hlt hb => ?_
  · rw [if_neg hno] at hK
    try simp only [e_fd, e_nck, e_pkt, e_pkf, e_gdtt, e_gdtf, e_gdft, e_gdff, e_ift, e_iff, e_not, e_ln, e_lnT, e_cp, e_cvi, e_ex20, e_ex21, e_ex30, e_ex31, e_ex32, e_add, e_sub, e_mul, e_quo, e_rem, e_and, e_or, e_xor, e_shl, e_shr, e_eql, e_neq, e_lss, e_leq, e_gtr, e_geq, e_beq, e_bne, e_peq1, e_peq2, e_pne1, e_pne2, e_zeq1, e_zeq2, e_zne1, e_zne2, e_feq1, e_fne1, e_feq2, e_fne2, e_seq, e_sne, e_ta1, e_ta2, Nat.zero_add, Nat.add_zero, Bool.not_true, Bool.not_false]
    exact h.same hK (Kp.refl _ _)
  subst hb
  rw [if_pos ⟨by omega, by omega⟩, rget_at hi hlt, rset_at hi] at hK
  have yes : (rs[i].st = 1 ∨ rs[i].st = 2) → s122_p2 K (P t 0) (I now) (I id) lv (P b (i * 7)) w := by
    intro q
    rw [if_pos q] at hK
    have rl := hT.rl _ (List.getElem_mem hlt)
    unfold s122_p2 s122_p2_d
    have kd : Kp Emp w (drw w) := kp_drw
    generalize drw w = w0 at kd ⊢
    have h0 := h.kp' kd
    try simp only [e_fd, e_nck, e_pkt, e_pkf, e_gdtt, e_gdtf, e_gdft, e_gdff, e_ift, e_iff, e_not, e_ln, e_lnT, e_cp, e_cvi, e_ex20, e_ex21, e_ex30, e_ex31, e_ex32, e_add, e_sub, e_mul, e_quo, e_rem, e_and, e_or, e_xor, e_shl, e_shr, e_eql, e_neq, e_lss, e_leq, e_gtr, e_geq, e_beq, e_bne, e_peq1, e_peq2, e_pne1, e_pne2, e_zeq1, e_zeq2, e_zne1, e_zne2, e_feq1, e_fne1, e_feq2, e_fne2, e_seq, e_sne, e_ta1, e_ta2, Nat.zero_add, Nat.add_zero, Bool.not_true, Bool.not_false]
    refine tb_ld (j := 2) (x := I rs[i].cl) h0 hlt (by decide) (fun _ => rfl) ?_
    try simp only [e_fd, e_nck, e_pkt, e_pkf, e_gdtt, e_gdtf, e_gdft, e_gdff, e_ift, e_iff, e_not, e_ln, e_lnT, e_cp, e_cvi, e_ex20, e_ex21, e_ex30, e_ex31, e_ex32, e_add, e_sub, e_mul, e_quo, e_rem, e_and, e_or, e_xor, e_shl, e_shr, e_eql, e_neq, e_lss, e_leq, e_gtr, e_geq, e_beq, e_bne, e_peq1, e_peq2, e_pne1, e_pne2, e_zeq1, e_zeq2, e_zne1, e_zne2, e_feq1, e_fne1, e_feq2, e_fne2, e_seq, e_sne, e_ta1, e_ta2, Nat.zero_add, Nat.add_zero, Bool.not_true, Bool.not_false]
    refine tb_ld (j := 3) (x := I rs[i].sz) h0 hlt (by decide) (fun _ => rfl) ?_
    refine fits_ok cv h0.tr hT.rb (hl.kp' kd) hlo.ll hlo.lv ⟨rl.rn.cl.1, rl.cl⟩ ⟨rl.rb.s0, rl.rb.s1⟩ ⟨by omega, by omega⟩ hlo.ho fun w1 k1 => ?_
    have kk1 := kd.trans k1
    unfold s122_p1
    try simp only [e_fd, e_nck, e_pkt, e_pkf, e_gdtt, e_gdtf, e_gdft, e_gdff, e_ift, e_iff, e_not, e_ln, e_lnT, e_cp, e_cvi, e_ex20, e_ex21, e_ex30, e_ex31, e_ex32, e_add, e_sub, e_mul, e_quo, e_rem, e_and, e_or, e_xor, e_shl, e_shr, e_eql, e_neq, e_lss, e_leq, e_gtr, e_geq, e_beq, e_bne, e_peq1, e_peq2, e_pne1, e_pne2, e_zeq1, e_zeq2, e_zne1, e_zne2, e_feq1, e_fne1, e_feq2, e_fne2, e_seq, e_sne, e_ta1, e_ta2, Nat.zero_add, Nat.add_zero, Bool.not_true, Bool.not_false]
    by_cases hq : fits C rs rs[i].cl rs[i].sz ls id = 0
    · rw [if_pos hq] at hK
      rw [bne_f hq]
      try simp only [e_fd, e_nck, e_pkt, e_pkf, e_gdtt, e_gdtf, e_gdft, e_gdff, e_ift, e_iff, e_not, e_ln, e_lnT, e_cp, e_cvi, e_ex20, e_ex21, e_ex30, e_ex31, e_ex32, e_add, e_sub, e_mul, e_quo, e_rem, e_and, e_or, e_xor, e_shl, e_shr, e_eql, e_neq, e_lss, e_leq, e_gtr, e_geq, e_beq, e_bne, e_peq1, e_peq2, e_pne1, e_pne2, e_zeq1, e_zeq2, e_zne1, e_zne2, e_feq1, e_fne1, e_feq2, e_fne2, e_seq, e_sne, e_ta1, e_ta2, Nat.zero_add, Nat.add_zero, Bool.not_true, Bool.not_false]
      refine ar_copy lC_len rfl (fun _ _ => lC_sc _) (hl.kp' kk1) (by have := hlo.ll; omega) fun w2 v2 c s2 hc2 k2 => ?_
      have kk2 := kk1.trans k2
      have h2 := h.kp' kk2
      try simp only [e_fd, e_nck, e_pkt, e_pkf, e_gdtt, e_gdtf, e_gdft, e_gdff, e_ift, e_iff, e_not, e_ln, e_lnT, e_cp, e_cvi, e_ex20, e_ex21, e_ex30, e_ex31, e_ex32, e_add, e_sub, e_mul, e_quo, e_rem, e_and, e_or, e_xor, e_shl, e_shr, e_eql, e_neq, e_lss, e_leq, e_gtr, e_geq, e_beq, e_bne, e_peq1, e_peq2, e_pne1, e_pne2, e_zeq1, e_zeq2, e_zne1, e_zne2, e_feq1, e_fne1, e_feq2, e_fne2, e_seq, e_sne, e_ta1, e_ta2, Nat.zero_add, Nat.add_zero, Bool.not_true, Bool.not_false]
      refine tb_st (j := 6) (r' := { rs[i] with legs := ls }) h2 hlt (by decide) (sl_scal s2) (fun lv0 hl0 => ⟨v2, rfl, ?_⟩) fun w3 tb3 hk3 hz3 => ?_
      · refine s2.ar lC_len (by have := hlo.ll; simp only; omega) fun b e => ?_
        cases e
        exact ⟨fun q => by have := h.lt _ q; have := kk1.size; have := hc2.1; omega, hc2.2⟩
      · exact hK w3 M (some b) (Ext.same h.lt (kk2.none.trans hk3)) (kk2.none.trans (hk3.mono fun c _ q => .inr (by rw [q]))) (fun b q => .inl q) tb3
    · rw [if_neg hq] at hK
      rw [bne_t hq]
      try simp only [e_fd, e_nck, e_pkt, e_pkf, e_gdtt, e_gdtf, e_gdft, e_gdff, e_ift, e_iff, e_not, e_ln, e_lnT, e_cp, e_cvi, e_ex20, e_ex21, e_ex30, e_ex31, e_ex32, e_add, e_sub, e_mul, e_quo, e_rem, e_and, e_or, e_xor, e_shl, e_shr, e_eql, e_neq, e_lss, e_leq, e_gtr, e_geq, e_beq, e_bne, e_peq1, e_peq2, e_pne1, e_pne2, e_zeq1, e_zeq2, e_zne1, e_zne2, e_feq1, e_fne1, e_feq2, e_fne2, e_seq, e_sne, e_ta1, e_ta2, Nat.zero_add, Nat.add_zero, Bool.not_true, Bool.not_false]
      exact h.same hK kk1
  try simp only [e_fd, e_nck, e_pkt, e_pkf, e_gdtt, e_gdtf, e_gdft, e_gdff, e_ift, e_iff, e_not, e_ln, e_lnT, e_cp, e_cvi, e_ex20, e_ex21, e_ex30, e_ex31, e_ex32, e_add, e_sub, e_mul, e_quo, e_rem, e_and, e_or, e_xor, e_shl, e_shr, e_eql, e_neq, e_lss, e_leq, e_gtr, e_geq, e_beq, e_bne, e_peq1, e_peq2, e_pne1, e_pne2, e_zeq1, e_zeq2, e_zne1, e_zne2, e_feq1, e_fne1, e_feq2, e_fne2, e_seq, e_sne, e_ta1, e_ta2, Nat.zero_add, Nat.add_zero, Bool.not_true, Bool.not_false]
  refine tb_ld (j := 1) (x := I rs[i].st) h hlt (by decide) (fun _ => rfl) ?_
  try simp only [e_fd, e_nck, e_pkt, e_pkf, e_gdtt, e_gdtf, e_gdft, e_gdff, e_ift, e_iff, e_not, e_ln, e_lnT, e_cp, e_cvi, e_ex20, e_ex21, e_ex30, e_ex31, e_ex32, e_add, e_sub, e_mul, e_quo, e_rem, e_and, e_or, e_xor, e_shl, e_shr, e_eql, e_neq, e_lss, e_leq, e_gtr, e_geq, e_beq, e_bne, e_peq1, e_peq2, e_pne1, e_pne2, e_zeq1, e_zeq2, e_zne1, e_zne2, e_feq1, e_fne1, e_feq2, e_fne2, e_seq, e_sne, e_ta1, e_ta2, Nat.zero_add, Nat.add_zero, Bool.not_true, Bool.not_false]
  by_cases h1 : rs[i].st = 1
  · rw [bne_f h1]
    try simp only [e_fd, e_nck, e_pkt, e_pkf, e_gdtt, e_gdtf, e_gdft, e_gdff, e_ift, e_iff, e_not, e_ln, e_lnT, e_cp, e_cvi, e_ex20, e_ex21, e_ex30, e_ex31, e_ex32, e_add, e_sub, e_mul, e_quo, e_rem, e_and, e_or, e_xor, e_shl, e_shr, e_eql, e_neq, e_lss, e_leq, e_gtr, e_geq, e_beq, e_bne, e_peq1, e_peq2, e_pne1, e_pne2, e_zeq1, e_zeq2, e_zne1, e_zne2, e_feq1, e_fne1, e_feq2, e_fne2, e_seq, e_sne, e_ta1, e_ta2, Nat.zero_add, Nat.add_zero, Bool.not_true, Bool.not_false]
    exact yes (.inl h1)
  rw [bne_t h1]
  try simp only [e_fd, e_nck, e_pkt, e_pkf, e_gdtt, e_gdtf, e_gdft, e_gdff, e_ift, e_iff, e_not, e_ln, e_lnT, e_cp, e_cvi, e_ex20, e_ex21, e_ex30, e_ex31, e_ex32, e_add, e_sub, e_mul, e_quo, e_rem, e_and, e_or, e_xor, e_shl, e_shr, e_eql, e_neq, e_lss, e_leq, e_gtr, e_geq, e_beq, e_bne, e_peq1, e_peq2, e_pne1, e_pne2, e_zeq1, e_zeq2, e_zne1, e_zne2, e_feq1, e_fne1, e_feq2, e_fne2, e_seq, e_sne, e_ta1, e_ta2, Nat.zero_add, Nat.add_zero, Bool.not_true, Bool.not_false]
  refine tb_ld (j := 1) (x := I rs[i].st) h hlt (by decide) (fun _ => rfl) ?_
  try simp only [e_fd, e_nck, e_pkt, e_pkf, e_gdtt, e_gdtf, e_gdft, e_gdff, e_ift, e_iff, e_not, e_ln, e_lnT, e_cp, e_cvi, e_ex20, e_ex21, e_ex30, e_ex31, e_ex32, e_add, e_sub, e_mul, e_quo, e_rem, e_and, e_or, e_xor, e_shl, e_shr, e_eql, e_neq, e_lss, e_leq, e_gtr, e_geq, e_beq, e_bne, e_peq1, e_peq2, e_pne1, e_pne2, e_zeq1, e_zeq2, e_zne1, e_zne2, e_feq1, e_fne1, e_feq2, e_fne2, e_seq, e_sne, e_ta1, e_ta2, Nat.zero_add, Nat.add_zero, Bool.not_true, Bool.not_false]
  by_cases h2 : rs[i].st = 2
  · rw [bne_f h2]
    try simp only [e_fd, e_nck, e_pkt, e_pkf, e_gdtt, e_gdtf, e_gdft, e_gdff, e_ift, e_iff, e_not, e_ln, e_lnT, e_cp, e_cvi, e_ex20, e_ex21, e_ex30, e_ex31, e_ex32, e_add, e_sub, e_mul, e_quo, e_rem, e_and, e_or, e_xor, e_shl, e_shr, e_eql, e_neq, e_lss, e_leq, e_gtr, e_geq, e_beq, e_bne, e_peq1, e_peq2, e_pne1, e_pne2, e_zeq1, e_zeq2, e_zne1, e_zne2, e_feq1, e_fne1, e_feq2, e_fne2, e_seq, e_sne, e_ta1, e_ta2, Nat.zero_add, Nat.add_zero, Bool.not_true, Bool.not_false]
    exact yes (.inr h2)
  rw [bne_t h2]
  try simp only [e_fd, e_nck, e_pkt, e_pkf, e_gdtt, e_gdtf, e_gdft, e_gdff, e_ift, e_iff, e_not, e_ln, e_lnT, e_cp, e_cvi, e_ex20, e_ex21, e_ex30, e_ex31, e_ex32, e_add, e_sub, e_mul, e_quo, e_rem, e_and, e_or, e_xor, e_shl, e_shr, e_eql, e_neq, e_lss, e_leq, e_gtr, e_geq, e_beq, e_bne, e_peq1, e_peq2, e_pne1, e_pne2, e_zeq1, e_zeq2, e_zne1, e_zne2, e_feq1, e_fne1, e_feq2, e_fne2, e_seq, e_sne, e_ta1, e_ta2, Nat.zero_add, Nat.add_zero, Bool.not_true, Bool.not_false]
  rw [if_neg (by omega)] at hK
  exact h.same hK (Kp.refl _ _)
end
end Go.Proofs.Qxb6500896aGreatDoor
