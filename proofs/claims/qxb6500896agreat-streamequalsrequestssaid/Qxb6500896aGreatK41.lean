import Derived.Test.Qxb6500896aGreatK40
namespace Go.Proofs.Qxb6500896aGreat
open Go.Sh Go.RowKit
set_option linter.unusedVariables false
set_option linter.unusedSimpArgs false

section
variable {M0 M : Nat → Prop} {w0 w w' : World} {t n wb L i : Nat} {rob0 rob : Option Nat} {lobs0 lobs : List (Option Nat)} {C : Cfg} {iv : Value} {s : SrvS} {K : Value → World → Prop} {id slot now : Int} {rs : List Rec} {ls : List (List Int)}
theorem firstOf_none {l : List Int} {k : Nat} (hk : k < l.length) (h : tOffer C rs l[k] (now + 1) (now + C.of) = none) : firstOf C rs now (l.drop k) = firstOf C rs now (l.drop (k + 1)) := by
  rw [List.drop_eq_getElem_cons hk, firstOf, h]
theorem firstOf_some {l : List Int} {k : Nat} {x : Int} (hk : k < l.length) (h : tOffer C rs l[k] (now + 1) (now + C.of) = some x) : firstOf C rs now (l.drop k) = some (l[k], x) := by
  rw [List.drop_eq_getElem_cons hk, firstOf, h]
/-- one look through a line -/
theorem sv_scan {B1 : List Value → World → Prop} {X : List Value → World → Prop} (cv : CV C) (hn : 0 ≤ now ∧ now ≤ 1099511627776) (h : SvM M0 w0 t rob0 n wb lobs0 C L w iv s) (hi : i < L)
    (hno : firstOf C s.rs now (lnOf s.ls (i : Nat)) = none → ∀ w', SvM M0 w0 t rob0 n wb lobs0 C L w' iv s → X [P n 0, P t 0, I now, iv, I (i : Nat), .bool false, I (L : Nat), I (i : Nat)] w')
    (hyes : ∀ p, firstOf C s.rs now (lnOf s.ls (i : Nat)) = some p → ∀ w' iv', SvM M0 w0 t rob0 n wb lobs0 C L w' iv' ⟨(tIssue p.1 p.2 s.rs).1, tRemove p.1 s.ls, s.iss ++ [⟨p.1, p.2⟩]⟩ → X [P n 0, P t 0, I now, iv', I (i : Nat), .bool true, I (L : Nat), I (i : Nat)] w') :
    s236_p5 K B1 X (P n 0) (P t 0) (I now) iv (I (i : Nat)) (I (L : Nat)) (I (i : Nat)) w := by
  have hz := cv.hz
  have hof := cv.of
  obtain ⟨M, rob, lobs, ib, hx, k, o, tb, li, si, hib, hm⟩ := h.ex
  have hiL : i < s.ls.length := by rw [h.ln]; exact hi
  rw [lnOf_at hiL] at hno hyes
  have hev := li.each _ (List.getElem_mem hiL)
  obtain ⟨v, ob, hob, sv, hvM, lw, rw0, hlw, hlwl⟩ := li_it li hiL
  obtain ⟨cl, its, r0, hcg, _⟩ := li.ex
  obtain ⟨va, vt, rfl, _⟩ := hcg.ex
  unfold s236_p5
  try simp only [e_fd, e_nck, e_pkt, e_pkf, e_gdtt, e_gdtf, e_gdft, e_gdff, e_ift, e_iff, e_not, e_ln, e_lnT, e_cp, e_cvi, e_ex20, e_ex21, e_ex30, e_ex31, e_ex32, e_add, e_sub, e_mul, e_quo, e_rem, e_and, e_or, e_xor, e_shl, e_shr, e_eql, e_neq, e_lss, e_leq, e_gtr, e_geq, e_beq, e_bne, e_peq1, e_peq2, e_pne1, e_pne2, e_zeq1, e_zeq2, e_zne1, e_zne2, e_feq1, e_fne1, e_feq2, e_fne2, e_seq, e_sne, e_ta1, e_ta2, Nat.zero_add, Nat.add_zero, Bool.not_true, Bool.not_false]
  refine ld1_r (v := .slice (some ⟨wb, 0, none⟩) s.ls.length s.ls.length) r0 rfl ?_
  refine ixw hiL ?_
  refine ld1_r rw0 hlw ?_
  have av : Ar iC 1 (fun _ => True) w v s.ls[i] := sv.ar iC_len (by omega) fun b e => trivial
  refine av.ln ?_
  unfold s236_p4
  refine loop_n s.ls[i].length (fun k l w' => l = [P n 0, P t 0, I now, iv, I (i : Nat), .bool false, I (L : Nat), I (i : Nat), v, I (s.ls[i].length : Nat), I (k : Nat)] ∧ Kp Emp w w' ∧ firstOf C s.rs now s.ls[i] = firstOf C s.rs now (s.ls[i].drop k)) ⟨rfl, Kp.refl _ _, rfl⟩ ?_ ?_
  · rintro k l w2 hk ⟨rfl, k2, he⟩ B hB
    rw [s236_p4_Fe]
    unfold s236_p3
    try simp only [e_fd, e_nck, e_pkt, e_pkf, e_gdtt, e_gdtf, e_gdft, e_gdff, e_ift, e_iff, e_not, e_ln, e_lnT, e_cp, e_cvi, e_ex20, e_ex21, e_ex30, e_ex31, e_ex32, e_add, e_sub, e_mul, e_quo, e_rem, e_and, e_or, e_xor, e_shl, e_shr, e_eql, e_neq, e_lss, e_leq, e_gtr, e_geq, e_beq, e_bne, e_peq1, e_peq2, e_pne1, e_pne2, e_zeq1, e_zeq2, e_zne1, e_zne2, e_feq1, e_fne1, e_feq2, e_fne2, e_seq, e_sne, e_ta1, e_ta2, Nat.zero_add, Nat.add_zero, Bool.not_true, Bool.not_false]
    rw [dlt hk]
    try simp only [e_fd, e_nck, e_pkt, e_pkf, e_gdtt, e_gdtf, e_gdft, e_gdff, e_ift, e_iff, e_not, e_ln, e_lnT, e_cp, e_cvi, e_ex20, e_ex21, e_ex30, e_ex31, e_ex32, e_add, e_sub, e_mul, e_quo, e_rem, e_and, e_or, e_xor, e_shl, e_shr, e_eql, e_neq, e_lss, e_leq, e_gtr, e_geq, e_beq, e_bne, e_peq1, e_peq2, e_pne1, e_pne2, e_zeq1, e_zeq2, e_zne1, e_zne2, e_feq1, e_fne1, e_feq2, e_fne2, e_seq, e_sne, e_ta1, e_ta2, Nat.zero_add, Nat.add_zero, Bool.not_true, Bool.not_false]
    refine (av.kp' k2).ix hk fun bb oo _ hcl => ?_
    refine hcl.ld0 rfl ?_
    have hx63 := h.ts.ids _ (List.getElem_mem hiL) _ (List.getElem_mem hk)
    try simp only [e_fd, e_nck, e_pkt, e_pkf, e_gdtt, e_gdtf, e_gdft, e_gdff, e_ift, e_iff, e_not, e_ln, e_lnT, e_cp, e_cvi, e_ex20, e_ex21, e_ex30, e_ex31, e_ex32, e_add, e_sub, e_mul, e_quo, e_rem, e_and, e_or, e_xor, e_shl, e_shr, e_eql, e_neq, e_lss, e_leq, e_gtr, e_geq, e_beq, e_bne, e_peq1, e_peq2, e_pne1, e_pne2, e_zeq1, e_zeq2, e_zne1, e_zne2, e_feq1, e_fne1, e_feq2, e_fne2, e_seq, e_sne, e_ta1, e_ta2, Nat.zero_add, Nat.add_zero, Bool.not_true, Bool.not_false]
    refine ld1_r (v := I C.of) (k2.row' r0) rfl ?_
    try simp only [e_fd, e_nck, e_pkt, e_pkf, e_gdtt, e_gdtf, e_gdft, e_gdff, e_ift, e_iff, e_not, e_ln, e_lnT, e_cp, e_cvi, e_ex20, e_ex21, e_ex30, e_ex31, e_ex32, e_add, e_sub, e_mul, e_quo, e_rem, e_and, e_or, e_xor, e_shl, e_shr, e_eql, e_neq, e_lss, e_leq, e_gtr, e_geq, e_beq, e_bne, e_peq1, e_peq2, e_pne1, e_pne2, e_zeq1, e_zeq2, e_zne1, e_zne2, e_feq1, e_fne1, e_feq2, e_fne2, e_seq, e_sne, e_ta1, e_ta2, Nat.zero_add, Nat.add_zero, Bool.not_true, Bool.not_false]
    rw [wrap64_id (by omega) (by omega), wrap64_id (by omega) (by omega)]
    refine offer_ok cv h.ts.ti h.ts.tw (tb.kp' k2) hx63 ⟨by omega, by omega⟩ (by omega) fun w3 k3 => ?_
    have k23 := k2.trans k3
    simp only [ex2_0, ex2_1]
    cases hq : tOffer C s.rs s.ls[i][k] (now + 1) (now + C.of) with
    | none =>
      simp only [Option.isSome_none, e_fd, e_nck, e_pkt, e_pkf, e_gdtt, e_gdtf, e_gdft, e_gdff, e_ift, e_iff, e_not, e_ln, e_lnT, e_cp, e_cvi, e_ex20, e_ex21, e_ex30, e_ex31, e_ex32, e_add, e_sub, e_mul, e_quo, e_rem, e_and, e_or, e_xor, e_shl, e_shr, e_eql, e_neq, e_lss, e_leq, e_gtr, e_geq, e_beq, e_bne, e_peq1, e_peq2, e_pne1, e_pne2, e_zeq1, e_zeq2, e_zne1, e_zne2, e_feq1, e_fne1, e_feq2, e_fne2, e_seq, e_sne, e_ta1, e_ta2, Nat.zero_add, Nat.add_zero, Bool.not_true, Bool.not_false]
      rw [inc k (by omega)]
      exact hB _ w3 ⟨rfl, k23, by rw [he, firstOf_none hk hq]⟩
    | some x =>
      simp only [Option.isSome_some, Option.getD_some, e_fd, e_nck, e_pkt, e_pkf, e_gdtt, e_gdtf, e_gdft, e_gdff, e_ift, e_iff, e_not, e_ln, e_lnT, e_cp, e_cvi, e_ex20, e_ex21, e_ex30, e_ex31, e_ex32, e_add, e_sub, e_mul, e_quo, e_rem, e_and, e_or, e_xor, e_shl, e_shr, e_eql, e_neq, e_lss, e_leq, e_gtr, e_geq, e_beq, e_bne, e_peq1, e_peq2, e_pne1, e_pne2, e_zeq1, e_zeq2, e_zne1, e_zne2, e_feq1, e_fne1, e_feq2, e_fne2, e_seq, e_sne, e_ta1, e_ta2, Nat.zero_add, Nat.add_zero, Bool.not_true, Bool.not_false]
      obtain ⟨b1, b2, b3, b4⟩ := tOffer_b hq
      refine sv_step cv (h.kp k23) b1 b2 ⟨by omega, by omega⟩ hx63 fun w4 iv4 h4 => ?_
      exact hyes (s.ls[i][k], x) (by rw [he, firstOf_some hk hq]) w4 iv4 h4
  · rintro l w2 ⟨rfl, k2, he⟩ B
    rw [s236_p4_Fe]
    unfold s236_p3
    try simp only [e_fd, e_nck, e_pkt, e_pkf, e_gdtt, e_gdtf, e_gdft, e_gdff, e_ift, e_iff, e_not, e_ln, e_lnT, e_cp, e_cvi, e_ex20, e_ex21, e_ex30, e_ex31, e_ex32, e_add, e_sub, e_mul, e_quo, e_rem, e_and, e_or, e_xor, e_shl, e_shr, e_eql, e_neq, e_lss, e_leq, e_gtr, e_geq, e_beq, e_bne, e_peq1, e_peq2, e_pne1, e_pne2, e_zeq1, e_zeq2, e_zne1, e_zne2, e_feq1, e_fne1, e_feq2, e_fne2, e_seq, e_sne, e_ta1, e_ta2, Nat.zero_add, Nat.add_zero, Bool.not_true, Bool.not_false]
    rw [dnlt]
    try simp only [e_fd, e_nck, e_pkt, e_pkf, e_gdtt, e_gdtf, e_gdft, e_gdff, e_ift, e_iff, e_not, e_ln, e_lnT, e_cp, e_cvi, e_ex20, e_ex21, e_ex30, e_ex31, e_ex32, e_add, e_sub, e_mul, e_quo, e_rem, e_and, e_or, e_xor, e_shl, e_shr, e_eql, e_neq, e_lss, e_leq, e_gtr, e_geq, e_beq, e_bne, e_peq1, e_peq2, e_pne1, e_pne2, e_zeq1, e_zeq2, e_zne1, e_zne2, e_feq1, e_fne1, e_feq2, e_fne2, e_seq, e_sne, e_ta1, e_ta2, Nat.zero_add, Nat.add_zero, Bool.not_true, Bool.not_false]
    exact hno (by rw [he, List.drop_length]; rfl) w2 (h.kp k2)
theorem serve_ok (cv : CV C) (hn : 0 ≤ now ∧ now ≤ 1099511627776) (h : Tb M w t rob C rs) (h' : Li M w n wb lobs C ls) (hts : TS C rs ls)
    (hK : ∀ w' iv, SvM M w t rob n wb lobs C ls.length w' iv (tServe C now rs ls) → K iv w') : cl Tryz.prog 236 #[P n 0, P t 0, I now] K w := by
  have hll := h'.len
  apply c236
  unfold s236_p11
  refine Sl.empty (f := isC2) (k := 2) fun w1 s1 hk1 hz1 => ?_
  have hx1 : Ext M (fun b => M b ∨ b = w.heap.size) w w1 := Ext.add h.lt hk1 (Nat.le_refl _) (by omega)
  have hwl : waits rs ≤ rs.length := List.countP_le_length
  have hrl := h.len
  have sv1 : SvM M w t rob n wb lobs C ls.length w1 (.slice (some ⟨w.heap.size, 0, none⟩) 0 0) ⟨rs, ls, []⟩ :=
    ⟨⟨_, rob, lobs, w.heap.size, hx1, hk1.none, fun b q => q.imp (fun q => q) .inl, h.ext hx1 hk1 (fun _ q => q.elim) (fun _ _ q => q), h'.ext hx1 hk1 (fun _ q => q.elim) (fun _ _ q => q), s1, Nat.le_refl _, .inr rfl⟩, hts, rfl, by simp; omega⟩
  obtain ⟨cl0, r0, hcl⟩ := (h'.kp' hk1).wrow
  try simp only [e_fd, e_nck, e_pkt, e_pkf, e_gdtt, e_gdtf, e_gdft, e_gdff, e_ift, e_iff, e_not, e_ln, e_lnT, e_cp, e_cvi, e_ex20, e_ex21, e_ex30, e_ex31, e_ex32, e_add, e_sub, e_mul, e_quo, e_rem, e_and, e_or, e_xor, e_shl, e_shr, e_eql, e_neq, e_lss, e_leq, e_gtr, e_geq, e_beq, e_bne, e_peq1, e_peq2, e_pne1, e_pne2, e_zeq1, e_zeq2, e_zne1, e_zne2, e_feq1, e_fne1, e_feq2, e_fne2, e_seq, e_sne, e_ta1, e_ta2, Nat.zero_add, Nat.add_zero, Bool.not_true, Bool.not_false]
  refine ld1_r r0 (by rw [List.getElem?_append_right (by omega), hcl]; rfl) ?_
  try simp only [e_fd, e_nck, e_pkt, e_pkf, e_gdtt, e_gdtf, e_gdft, e_gdff, e_ift, e_iff, e_not, e_ln, e_lnT, e_cp, e_cvi, e_ex20, e_ex21, e_ex30, e_ex31, e_ex32, e_add, e_sub, e_mul, e_quo, e_rem, e_and, e_or, e_xor, e_shl, e_shr, e_eql, e_neq, e_lss, e_leq, e_gtr, e_geq, e_beq, e_bne, e_peq1, e_peq2, e_pne1, e_pne2, e_zeq1, e_zeq2, e_zne1, e_zne2, e_feq1, e_fne1, e_feq2, e_fne2, e_seq, e_sne, e_ta1, e_ta2, Nat.zero_add, Nat.add_zero, Bool.not_true, Bool.not_false]
  unfold tServe at hK
  unfold s236_p10
  refine loop_n ls.length (fun i l w' => ∃ iv s, l = [P n 0, P t 0, I now, iv, I (ls.length : Nat), I (i : Nat)] ∧ SvM M w t rob n wb lobs C ls.length w' iv s ∧ srvL C now ls.length 0 ⟨rs, ls, []⟩ = srvL C now (ls.length - i) i s) ⟨_, _, rfl, sv1, rfl⟩ ?_ ?_
  · rintro i l w2 hi ⟨iv, s, rfl, sv2, he⟩ B hB
    rw [s236_p10_Fe]
    unfold s236_p9
    try simp only [e_fd, e_nck, e_pkt, e_pkf, e_gdtt, e_gdtf, e_gdft, e_gdff, e_ift, e_iff, e_not, e_ln, e_lnT, e_cp, e_cvi, e_ex20, e_ex21, e_ex30, e_ex31, e_ex32, e_add, e_sub, e_mul, e_quo, e_rem, e_and, e_or, e_xor, e_shl, e_shr, e_eql, e_neq, e_lss, e_leq, e_gtr, e_geq, e_beq, e_bne, e_peq1, e_peq2, e_pne1, e_pne2, e_zeq1, e_zeq2, e_zne1, e_zne2, e_feq1, e_fne1, e_feq2, e_fne2, e_seq, e_sne, e_ta1, e_ta2, Nat.zero_add, Nat.add_zero, Bool.not_true, Bool.not_false]
    rw [dlt hi]
    try simp only [e_fd, e_nck, e_pkt, e_pkf, e_gdtt, e_gdtf, e_gdft, e_gdff, e_ift, e_iff, e_not, e_ln, e_lnT, e_cp, e_cvi, e_ex20, e_ex21, e_ex30, e_ex31, e_ex32, e_add, e_sub, e_mul, e_quo, e_rem, e_and, e_or, e_xor, e_shl, e_shr, e_eql, e_neq, e_lss, e_leq, e_gtr, e_geq, e_beq, e_bne, e_peq1, e_peq2, e_pne1, e_pne2, e_zeq1, e_zeq2, e_zne1, e_zne2, e_feq1, e_fne1, e_feq2, e_fne2, e_seq, e_sne, e_ta1, e_ta2, Nat.zero_add, Nat.add_zero, Bool.not_true, Bool.not_false]
    unfold s236_p8 s236_p7
    rw [show ls.length - i = (ls.length - (i + 1)) + 1 by omega, srvL] at he
    refine ⟨fun m l w' => ∃ iv' s' ag, l = [P n 0, P t 0, I now, iv', I (i : Nat), .bool ag, I (ls.length : Nat), I (i : Nat)] ∧ SvM M w t rob n wb lobs C ls.length w' iv' s' ∧ m = (if ag then waits s'.rs + 1 else 0) ∧ srvA C now i (waits s.rs + 1) s = (if ag then srvA C now i (waits s'.rs + 1) s' else s'), waits s.rs + 1, ⟨iv, s, true, rfl, sv2, rfl, rfl⟩, ?_⟩
    rintro m l w3 ⟨iv', s', ag, rfl, sv3, hm, hs⟩
    rw [s236_p7_Fe]
    unfold s236_p6
    cases ag with
    | false =>
      rw [if_neg (by simp)] at hs
      try simp only [e_fd, e_nck, e_pkt, e_pkf, e_gdtt, e_gdtf, e_gdft, e_gdff, e_ift, e_iff, e_not, e_ln, e_lnT, e_cp, e_cvi, e_ex20, e_ex21, e_ex30, e_ex31, e_ex32, e_add, e_sub, e_mul, e_quo, e_rem, e_and, e_or, e_xor, e_shl, e_shr, e_eql, e_neq, e_lss, e_leq, e_gtr, e_geq, e_beq, e_bne, e_peq1, e_peq2, e_pne1, e_pne2, e_zeq1, e_zeq2, e_zne1, e_zne2, e_feq1, e_fne1, e_feq2, e_fne2, e_seq, e_sne, e_ta1, e_ta2, Nat.zero_add, Nat.add_zero, Bool.not_true, Bool.not_false]
      unfold s236_p2
      try simp only [e_fd, e_nck, e_pkt, e_pkf, e_gdtt, e_gdtf, e_gdft, e_gdff, e_ift, e_iff, e_not, e_ln, e_lnT, e_cp, e_cvi, e_ex20, e_ex21, e_ex30, e_ex31, e_ex32, e_add, e_sub, e_mul, e_quo, e_rem, e_and, e_or, e_xor, e_shl, e_shr, e_eql, e_neq, e_lss, e_leq, e_gtr, e_geq, e_beq, e_bne, e_peq1, e_peq2, e_pne1, e_pne2, e_zeq1, e_zeq2, e_zne1, e_zne2, e_feq1, e_fne1, e_feq2, e_fne2, e_seq, e_sne, e_ta1, e_ta2, Nat.zero_add, Nat.add_zero, Bool.not_true, Bool.not_false]
      rw [inc i (by omega)]
      refine hB _ w3 ⟨iv', s', rfl, sv3, ?_⟩
      rw [he, hs]
    | true =>
      rw [if_pos rfl] at hs hm
      try simp only [e_fd, e_nck, e_pkt, e_pkf, e_gdtt, e_gdtf, e_gdft, e_gdff, e_ift, e_iff, e_not, e_ln, e_lnT, e_cp, e_cvi, e_ex20, e_ex21, e_ex30, e_ex31, e_ex32, e_add, e_sub, e_mul, e_quo, e_rem, e_and, e_or, e_xor, e_shl, e_shr, e_eql, e_neq, e_lss, e_leq, e_gtr, e_geq, e_beq, e_bne, e_peq1, e_peq2, e_pne1, e_pne2, e_zeq1, e_zeq2, e_zne1, e_zne2, e_feq1, e_fne1, e_feq2, e_fne2, e_seq, e_sne, e_ta1, e_ta2, Nat.zero_add, Nat.add_zero, Bool.not_true, Bool.not_false]
      refine sv_scan cv hn sv3 hi (fun hf w4 sv4 => ?_) (fun p hf w4 iv4 sv4 => ?_)
      · refine ⟨0, by omega, iv', s', false, rfl, sv4, rfl, ?_⟩
        rw [hs, srvA, hf]
        rfl
      · obtain ⟨f1, f2⟩ := firstOf_mem hf
        obtain ⟨b1, b2, b3, b4⟩ := tOffer_b f2
        have hw := tIssue_w (slot := p.2) b1 b2
        refine ⟨waits s'.rs, by omega, iv4, _, true, rfl, sv4, by rw [if_pos rfl]; exact hw.symm, ?_⟩
        rw [if_pos rfl, hs, srvA, hf]
        show srvA C now i (waits s'.rs) _ = srvA C now i (waits (tIssue p.1 p.2 s'.rs).1 + 1) _
        rw [hw]
  · rintro l w2 ⟨iv, s, rfl, sv2, he⟩ B
    rw [s236_p10_Fe]
    unfold s236_p9
    try simp only [e_fd, e_nck, e_pkt, e_pkf, e_gdtt, e_gdtf, e_gdft, e_gdff, e_ift, e_iff, e_not, e_ln, e_lnT, e_cp, e_cvi, e_ex20, e_ex21, e_ex30, e_ex31, e_ex32, e_add, e_sub, e_mul, e_quo, e_rem, e_and, e_or, e_xor, e_shl, e_shr, e_eql, e_neq, e_lss, e_leq, e_gtr, e_geq, e_beq, e_bne, e_peq1, e_peq2, e_pne1, e_pne2, e_zeq1, e_zeq2, e_zne1, e_zne2, e_feq1, e_fne1, e_feq2, e_fne2, e_seq, e_sne, e_ta1, e_ta2, Nat.zero_add, Nat.add_zero, Bool.not_true, Bool.not_false]
    rw [dnlt]
    try simp only [e_fd, e_nck, e_pkt, e_pkf, e_gdtt, e_gdtf, e_gdft, e_gdff, e_ift, e_iff, e_not, e_ln, e_lnT, e_cp, e_cvi, e_ex20, e_ex21, e_ex30, e_ex31, e_ex32, e_add, e_sub, e_mul, e_quo, e_rem, e_and, e_or, e_xor, e_shl, e_shr, e_eql, e_neq, e_lss, e_leq, e_gtr, e_geq, e_beq, e_bne, e_peq1, e_peq2, e_pne1, e_pne2, e_zeq1, e_zeq2, e_zne1, e_zne2, e_feq1, e_fne1, e_feq2, e_fne2, e_seq, e_sne, e_ta1, e_ta2, Nat.zero_add, Nat.add_zero, Bool.not_true, Bool.not_false]
    unfold s236_p1
    rw [Nat.sub_self, srvL] at he
    rw [he] at hK
    exact hK w2 iv sv2
end
end Go.Proofs.Qxb6500896aGreat
