import Derived.Test.Qxb6500896aGreatK74
import Derived.Test.Qxb6500896aGreatN9
namespace Go.Proofs.Qxb6500896aGreat
open Go.Sh Go.RowKit
set_option linter.unusedVariables false
set_option linter.unusedSimpArgs false

section
variable {W w w' w1 : World} {V F M : Nat → Prop} {r e j n : Nat} {σ : Sg} {J : Jr} {K : Value → World → Prop} {v : Value} {lob : Option Nat} {xs : List Op}
theorem n20 : ((20 : Int) != 20) = false := rfl
/-- a journal that is refused as corrupt -/
theorem open_corrupt {X : World → Prop} (hj : Jn M w j lob J) (h0 : opn1 park J = none) (ho : J.off = false) (hl : J.left = 0) (hb : JBy J) (hX : ∀ w', Kp (OwnJ j lob) w w' → X w') :
    cl Tryz.prog 21 #[] (fun t w => cl Tryz.prog 38 #[t, P j 0] (fun t w => exq t 0 (fun a w => exq t 1 (fun b w => boP .neq a (.pointer none) (fun t134 w => gd t134 false (fun K w => K b w) (fun t136 w => gd t134 false (cl Tryz.prog 51 #[t136]) (fun t137 w => gd t134 false (boI .neq t137 (I 20)) (fun t138 w => pk t134 (.bool true) t138 (fun t139 w => ifb t139 (K (.bool false) w) (X w)) w) w) w) w) w) w) w) w) w := by
  have e1 : opnS park J = (J, none, 20) := by
    unfold opnS
    rw [if_neg (by rw [ho]; decide), if_neg (by omega), h0, due0 hl]
  refine park_ok fun w1 l1 hk1 hc1 => ?_
  have jlt := hj.lt j hj.mj
  refine open_ok hc1 park_v (by decide) (hj.kp' hk1) (fun b q => by have := q.1; omega) hb (fun _ w2 M2 lob2 ev hx2 hk2 ho2 jn2 her => ?_) (fun σ' hs => by rw [e1] at hs; cases hs)
  rw [e1] at her
  simp only [ex2_0, ex2_1, e_fd, e_nck, e_pkt, e_pkf, e_gdtt, e_gdtf, e_gdft, e_gdff, e_ift, e_iff, e_not, e_ln, e_lnT, e_cp, e_cvi, e_ex20, e_ex21, e_ex30, e_ex31, e_ex32, e_add, e_sub, e_mul, e_quo, e_rem, e_and, e_or, e_xor, e_shl, e_shr, e_eql, e_neq, e_lss, e_leq, e_gtr, e_geq, e_beq, e_bne, e_peq1, e_peq2, e_pne1, e_pne2, e_zeq1, e_zeq2, e_zne1, e_zne2, e_feq1, e_fne1, e_feq2, e_fne2, e_seq, e_sne, e_ta1, e_ta2, Nat.zero_add, Nat.add_zero, Bool.not_true, Bool.not_false]
  refine codeOf_ok her ?_
  simp only [n20, e_fd, e_nck, e_pkt, e_pkf, e_gdtt, e_gdtf, e_gdft, e_gdff, e_ift, e_iff, e_not, e_ln, e_lnT, e_cp, e_cvi, e_ex20, e_ex21, e_ex30, e_ex31, e_ex32, e_add, e_sub, e_mul, e_quo, e_rem, e_and, e_or, e_xor, e_shl, e_shr, e_eql, e_neq, e_lss, e_leq, e_gtr, e_geq, e_beq, e_bne, e_peq1, e_peq2, e_pne1, e_pne2, e_zeq1, e_zeq2, e_zne1, e_zne2, e_feq1, e_fne1, e_feq2, e_fne2, e_seq, e_sne, e_ta1, e_ta2, Nat.zero_add, Nat.add_zero, Bool.not_true, Bool.not_false]
  exact hX w2 (hk1.none.trans hk2)
theorem JBy.sub {log : List (List Int)} {s : Nat} (h : JBy J) (hl : ∀ x ∈ log, x ∈ J.log) : JBy { J with log := log, safe := s } := ⟨h.s, fun x hx => h.l x (hl x hx), h.n⟩
theorem tot_le {l l' : List (List Int)} (h : l'.Sublist l) : tot l' ≤ tot l := by
  unfold tot
  induction h with
  | slnil => exact Nat.le_refl _
  | cons a h ih => rw [List.map_cons, List.sum_cons]; omega
  | cons_cons a h ih => rw [List.map_cons, List.sum_cons, List.map_cons, List.sum_cons]; omega
set_option maxHeartbeats 1000000 in
theorem gap_part {x : List Op} (hs : Scr W v x) (hxl : x.length ≤ 65536) (z : Lz W V w r e σ J) (hl : Jlm 48 72 1200 J) (hn : J.log.length = n) (h2 : 2 ≤ n) (hK : ∀ w', Kp Emp w w' → s10_p6 K v (P r 0) (I (n : Nat)) w') :
    s10_p9 K v (P r 0) (I (n : Nat)) w := by
  have hlt := len_tot J.log
  have htt := hl.tt
  obtain ⟨M, m, h, hr, hM, hV⟩ := z.ex
  unfold s10_p9 s10_p9_d
  have kd : Kp Emp w (drw w) := kp_drw
  generalize drw w = w1 at kd ⊢
  try simp only [e_fd, e_nck, e_pkt, e_pkf, e_gdtt, e_gdtf, e_gdft, e_gdff, e_ift, e_iff, e_not, e_ln, e_lnT, e_cp, e_cvi, e_ex20, e_ex21, e_ex30, e_ex31, e_ex32, e_add, e_sub, e_mul, e_quo, e_rem, e_and, e_or, e_xor, e_shl, e_shr, e_eql, e_neq, e_lss, e_leq, e_gtr, e_geq, e_beq, e_bne, e_peq1, e_peq2, e_pne1, e_pne2, e_zeq1, e_zeq2, e_zne1, e_zne2, e_feq1, e_fne1, e_feq2, e_fne2, e_seq, e_sne, e_ta1, e_ta2, Nat.zero_add, Nat.add_zero, Bool.not_true, Bool.not_false]
  refine ld1_r (kd.row' hr) rfl ?_
  refine hs.ln ?_
  try simp only [e_fd, e_nck, e_pkt, e_pkf, e_gdtt, e_gdtf, e_gdft, e_gdff, e_ift, e_iff, e_not, e_ln, e_lnT, e_cp, e_cvi, e_ex20, e_ex21, e_ex30, e_ex31, e_ex32, e_add, e_sub, e_mul, e_quo, e_rem, e_and, e_or, e_xor, e_shl, e_shr, e_eql, e_neq, e_lss, e_leq, e_gtr, e_geq, e_beq, e_bne, e_peq1, e_peq2, e_pne1, e_pne2, e_zeq1, e_zeq2, e_zne1, e_zne2, e_feq1, e_fne1, e_feq2, e_fne2, e_seq, e_sne, e_ta1, e_ta2, Nat.zero_add, Nat.add_zero, Bool.not_true, Bool.not_false]
  rw [wrap64_id (by omega) (by omega)]
  refine ⟨by omega, ?_⟩
  have ei : ((x.length : Nat) : Int).tmod (((n : Nat) : Int) - 1) = ((x.length % (n - 1) : Nat) : Int) := by
    rw [show ((n : Nat) : Int) - 1 = ((n - 1 : Nat) : Int) by omega, ← Int.ofNat_tmod]
  rw [ei]
  have hi : x.length % (n - 1) < n - 1 := Nat.mod_lt _ (by omega)
  generalize x.length % (n - 1) = i at hi ⊢
  refine clone_ok (h.jn.kp' kd) fun w2 M2 j2 lob2 hx2 hk2 ho2 jn2 => ⟨hk2.below', hk2.below', ?_⟩
  unfold s10_p8 s10_p8_d
  have kd2 : Kp Emp w2 (drw w2) := kp_drw
  generalize drw w2 = w3 at kd2 ⊢
  have jn3 := jn2.kp' kd2
  obtain ⟨sv, lv, rj, hsv, evs, f1, f2, f3, f4⟩ := jn3.ex
  have zp : Zp M2 w3 evs J.log := ⟨f3, f4⟩
  try simp only [e_fd, e_nck, e_pkt, e_pkf, e_gdtt, e_gdtf, e_gdft, e_gdff, e_ift, e_iff, e_not, e_ln, e_lnT, e_cp, e_cvi, e_ex20, e_ex21, e_ex30, e_ex31, e_ex32, e_add, e_sub, e_mul, e_quo, e_rem, e_and, e_or, e_xor, e_shl, e_shr, e_eql, e_neq, e_lss, e_leq, e_gtr, e_geq, e_beq, e_bne, e_peq1, e_peq2, e_pne1, e_pne2, e_zeq1, e_zeq2, e_zne1, e_zne2, e_feq1, e_fne1, e_feq2, e_fne2, e_seq, e_sne, e_ta1, e_ta2, Nat.zero_add, Nat.add_zero, Bool.not_true, Bool.not_false]
  refine ld1_r (v := lv) rj rfl ?_
  refine sl_take (n := i) one_len f1 (by omega) fun v4 s4 => ?_
  try simp only [e_fd, e_nck, e_pkt, e_pkf, e_gdtt, e_gdtf, e_gdft, e_gdff, e_ift, e_iff, e_not, e_ln, e_lnT, e_cp, e_cvi, e_ex20, e_ex21, e_ex30, e_ex31, e_ex32, e_add, e_sub, e_mul, e_quo, e_rem, e_and, e_or, e_xor, e_shl, e_shr, e_eql, e_neq, e_lss, e_leq, e_gtr, e_geq, e_beq, e_bne, e_peq1, e_peq2, e_pne1, e_pne2, e_zeq1, e_zeq2, e_zne1, e_zne2, e_feq1, e_fne1, e_feq2, e_fne2, e_seq, e_sne, e_ta1, e_ta2, Nat.zero_add, Nat.add_zero, Bool.not_true, Bool.not_false]
  refine ld1_r (v := lv) rj rfl ?_
  try simp only [e_fd, e_nck, e_pkt, e_pkf, e_gdtt, e_gdtf, e_gdft, e_gdff, e_ift, e_iff, e_not, e_ln, e_lnT, e_cp, e_cvi, e_ex20, e_ex21, e_ex30, e_ex31, e_ex32, e_add, e_sub, e_mul, e_quo, e_rem, e_and, e_or, e_xor, e_shl, e_shr, e_eql, e_neq, e_lss, e_leq, e_gtr, e_geq, e_beq, e_bne, e_peq1, e_peq2, e_pne1, e_pne2, e_zeq1, e_zeq2, e_zne1, e_zne2, e_feq1, e_fne1, e_feq2, e_fne2, e_seq, e_sne, e_ta1, e_ta2, Nat.zero_add, Nat.add_zero, Bool.not_true, Bool.not_false]
  rw [inc i (by omega)]
  have ar := f1.ar one_len (F := fun _ => True) (by omega) (fun _ _ => trivial)
  refine ar.sub (lo := i + 1) (hi := evs.length) (by omega) (Nat.le_refl _) rfl (fun a c _ => rfl) fun v5 a5 => ?_
  rw [List.take_of_length_le (by rw [List.length_drop]; exact Nat.le_refl _)] at a5
  try simp only [e_fd, e_nck, e_pkt, e_pkf, e_gdtt, e_gdtf, e_gdft, e_gdff, e_ift, e_iff, e_not, e_ln, e_lnT, e_cp, e_cvi, e_ex20, e_ex21, e_ex30, e_ex31, e_ex32, e_add, e_sub, e_mul, e_quo, e_rem, e_and, e_or, e_xor, e_shl, e_shr, e_eql, e_neq, e_lss, e_leq, e_gtr, e_geq, e_beq, e_bne, e_peq1, e_peq2, e_pne1, e_pne2, e_zeq1, e_zeq2, e_zne1, e_zne2, e_feq1, e_fne1, e_feq2, e_fne2, e_seq, e_sne, e_ta1, e_ta2, Nat.zero_add, Nat.add_zero, Bool.not_true, Bool.not_false]
  have el1 : (J.log.take i ++ J.log.drop (i + 1)).length ≤ 1000000 := by rw [List.length_append, List.length_take, List.length_drop]; omega
  refine Sl.app3 one_len rfl (fun y hy => ?_) s4 (a5.rds one_len) (by rw [List.length_take, List.length_drop]; omega) (by rw [List.length_take, List.length_drop]; omega) fun w6 v6 ob6 s6 hk6 ho6 => ?_
  · obtain ⟨k, hk, rfl⟩ := List.mem_iff_getElem.1 hy
    have hkl := hk
    rw [List.length_drop] at hkl
    rw [List.getElem_drop]
    have := (f4 (i + 1 + k) (by omega) (by omega)).scal
    simp only [one, List.all_cons, List.all_nil, this]; rfl
  · unfold s10_p7
    try simp only [e_fd, e_nck, e_pkt, e_pkf, e_gdtt, e_gdtf, e_gdft, e_gdff, e_ift, e_iff, e_not, e_ln, e_lnT, e_cp, e_cvi, e_ex20, e_ex21, e_ex30, e_ex31, e_ex32, e_add, e_sub, e_mul, e_quo, e_rem, e_and, e_or, e_xor, e_shl, e_shr, e_eql, e_neq, e_lss, e_leq, e_gtr, e_geq, e_beq, e_bne, e_peq1, e_peq2, e_pne1, e_pne2, e_zeq1, e_zeq2, e_zne1, e_zne2, e_feq1, e_fne1, e_feq2, e_fne2, e_seq, e_sne, e_ta1, e_ta2, Nat.zero_add, Nat.add_zero, Bool.not_true, Bool.not_false]
    have tl : tot (J.log.take i ++ J.log.drop (i + 1)) ≤ tot J.log := by
      refine tot_le ?_
      conv => rhs; rw [← List.take_append_drop i J.log]
      refine List.Sublist.append (List.Sublist.refl _) ?_
      rw [List.drop_eq_getElem_cons (by omega : i < J.log.length)]
      exact List.sublist_cons_self _ _
    refine jput jn3 hk6 s6 ((zp.take i).app (zp.drop (i + 1))) ho6 el1 (by omega) fun w7 M7 hx7 hk7 ho7 jn7 => ?_
    have hop : opn1 park { J with log := J.log.take i ++ J.log.drop (i + 1), safe := (J.log.take i ++ J.log.drop (i + 1)).length } = none := by
      obtain ⟨σ1, r1, _⟩ := z.i.rp
      refine opn1_none (fun σ0 hne => ?_) ⟨σ1, r1⟩
      cases hq : rplL park J.log σ0 with
      | none => exact absurd hq hne
      | some σ2 => exact rpl_gap hq (by omega)
    have hjb : JBy { J with log := J.log.take i ++ J.log.drop (i + 1), safe := (J.log.take i ++ J.log.drop (i + 1)).length } := z.i.jb.sub fun y hy => by
      rcases List.mem_append.1 hy with q | q
      · exact List.mem_of_mem_take q
      · exact List.mem_of_mem_drop q
    refine open_corrupt jn7 hop z.i.off z.i.lf hjb fun w8 hk8 => hK w8 ?_
    have sz2 := hk2.size
    have own2 : ∀ b, OwnJ j2 lob2 b → w1.heap.size ≤ b := ho2
    have s1 := kd.size
    refine (((kd.trans hk2).trans kd2).then hk7 fun b hb q => ?_).then hk8 fun b hb q => ?_
    · rcases q with q | q
      · have := own2 b (.inr q); omega
      · have := own2 b (.inl q); omega
    · rcases q with q | q
      · have := own2 b (.inl q); omega
      · rcases ho7 b q with q | q
        · have := own2 b (.inr q); omega
        · have := (kd.trans hk2).size
          have := kd2.size
          omega
set_option maxHeartbeats 1000000 in
theorem twice_part {x : List Op} (hs : Scr W v x) (hxl : x.length ≤ 65536) (z : Lz W V w r e σ J) (hl : Jlm 48 72 1200 J) (hn : J.log.length = n) (h1 : 1 ≤ n) (hK : ∀ w', Kp Emp w w' → K (.bool true) w') :
    s10_p4 K v (P r 0) (I (n : Nat)) w := by
  have hlt := len_tot J.log
  have htt := hl.tt
  obtain ⟨M, m, h, hr, hM, hV⟩ := z.ex
  unfold s10_p4 s10_p4_d
  have kd : Kp Emp w (drw w) := kp_drw
  generalize drw w = w1 at kd ⊢
  try simp only [e_fd, e_nck, e_pkt, e_pkf, e_gdtt, e_gdtf, e_gdft, e_gdff, e_ift, e_iff, e_not, e_ln, e_lnT, e_cp, e_cvi, e_ex20, e_ex21, e_ex30, e_ex31, e_ex32, e_add, e_sub, e_mul, e_quo, e_rem, e_and, e_or, e_xor, e_shl, e_shr, e_eql, e_neq, e_lss, e_leq, e_gtr, e_geq, e_beq, e_bne, e_peq1, e_peq2, e_pne1, e_pne2, e_zeq1, e_zeq2, e_zne1, e_zne2, e_feq1, e_fne1, e_feq2, e_fne2, e_seq, e_sne, e_ta1, e_ta2, Nat.zero_add, Nat.add_zero, Bool.not_true, Bool.not_false]
  refine ld1_r (kd.row' hr) rfl ?_
  refine hs.ln ?_
  try simp only [e_fd, e_nck, e_pkt, e_pkf, e_gdtt, e_gdtf, e_gdft, e_gdff, e_ift, e_iff, e_not, e_ln, e_lnT, e_cp, e_cvi, e_ex20, e_ex21, e_ex30, e_ex31, e_ex32, e_add, e_sub, e_mul, e_quo, e_rem, e_and, e_or, e_xor, e_shl, e_shr, e_eql, e_neq, e_lss, e_leq, e_gtr, e_geq, e_beq, e_bne, e_peq1, e_peq2, e_pne1, e_pne2, e_zeq1, e_zeq2, e_zne1, e_zne2, e_feq1, e_fne1, e_feq2, e_fne2, e_seq, e_sne, e_ta1, e_ta2, Nat.zero_add, Nat.add_zero, Bool.not_true, Bool.not_false]
  refine ⟨by omega, ?_⟩
  have ei : ((x.length : Nat) : Int).tmod ((n : Nat) : Int) = ((x.length % n : Nat) : Int) := by
    rw [← Int.ofNat_tmod]
  rw [ei]
  have hi : x.length % n < n := Nat.mod_lt _ (by omega)
  generalize x.length % n = i at hi ⊢
  refine clone_ok (h.jn.kp' kd) fun w2 M2 j2 lob2 hx2 hk2 ho2 jn2 => ⟨hk2.below', hk2.below', ?_⟩
  unfold s10_p3 s10_p3_d
  have kd2 : Kp Emp w2 (drw w2) := kp_drw
  generalize drw w2 = w3 at kd2 ⊢
  have jn3 := jn2.kp' kd2
  obtain ⟨sv, lv, rj, hsv, evs, f1, f2, f3, f4⟩ := jn3.ex
  have zp : Zp M2 w3 evs J.log := ⟨f3, f4⟩
  try simp only [e_fd, e_nck, e_pkt, e_pkf, e_gdtt, e_gdtf, e_gdft, e_gdff, e_ift, e_iff, e_not, e_ln, e_lnT, e_cp, e_cvi, e_ex20, e_ex21, e_ex30, e_ex31, e_ex32, e_add, e_sub, e_mul, e_quo, e_rem, e_and, e_or, e_xor, e_shl, e_shr, e_eql, e_neq, e_lss, e_leq, e_gtr, e_geq, e_beq, e_bne, e_peq1, e_peq2, e_pne1, e_pne2, e_zeq1, e_zeq2, e_zne1, e_zne2, e_feq1, e_fne1, e_feq2, e_fne2, e_seq, e_sne, e_ta1, e_ta2, Nat.zero_add, Nat.add_zero, Bool.not_true, Bool.not_false]
  refine ld1_r (v := lv) rj rfl ?_
  try simp only [e_fd, e_nck, e_pkt, e_pkf, e_gdtt, e_gdtf, e_gdft, e_gdff, e_ift, e_iff, e_not, e_ln, e_lnT, e_cp, e_cvi, e_ex20, e_ex21, e_ex30, e_ex31, e_ex32, e_add, e_sub, e_mul, e_quo, e_rem, e_and, e_or, e_xor, e_shl, e_shr, e_eql, e_neq, e_lss, e_leq, e_gtr, e_geq, e_beq, e_bne, e_peq1, e_peq2, e_pne1, e_pne2, e_zeq1, e_zeq2, e_zne1, e_zne2, e_feq1, e_fne1, e_feq2, e_fne2, e_seq, e_sne, e_ta1, e_ta2, Nat.zero_add, Nat.add_zero, Bool.not_true, Bool.not_false]
  rw [inc i (by omega)]
  refine sl_take (n := i + 1) one_len f1 (by omega) fun v4 s4 => ?_
  try simp only [e_fd, e_nck, e_pkt, e_pkf, e_gdtt, e_gdtf, e_gdft, e_gdff, e_ift, e_iff, e_not, e_ln, e_lnT, e_cp, e_cvi, e_ex20, e_ex21, e_ex30, e_ex31, e_ex32, e_add, e_sub, e_mul, e_quo, e_rem, e_and, e_or, e_xor, e_shl, e_shr, e_eql, e_neq, e_lss, e_leq, e_gtr, e_geq, e_beq, e_bne, e_peq1, e_peq2, e_pne1, e_pne2, e_zeq1, e_zeq2, e_zne1, e_zne2, e_feq1, e_fne1, e_feq2, e_fne2, e_seq, e_sne, e_ta1, e_ta2, Nat.zero_add, Nat.add_zero, Bool.not_true, Bool.not_false]
  refine ld1_r (v := lv) rj rfl ?_
  have ar := f1.ar one_len (F := fun _ => True) (by omega) (fun _ _ => trivial)
  refine ar.sub (lo := i) (hi := evs.length) (by omega) (Nat.le_refl _) rfl (fun a c _ => rfl) fun v5 a5 => ?_
  rw [List.take_of_length_le (by rw [List.length_drop]; exact Nat.le_refl _)] at a5
  try simp only [e_fd, e_nck, e_pkt, e_pkf, e_gdtt, e_gdtf, e_gdft, e_gdff, e_ift, e_iff, e_not, e_ln, e_lnT, e_cp, e_cvi, e_ex20, e_ex21, e_ex30, e_ex31, e_ex32, e_add, e_sub, e_mul, e_quo, e_rem, e_and, e_or, e_xor, e_shl, e_shr, e_eql, e_neq, e_lss, e_leq, e_gtr, e_geq, e_beq, e_bne, e_peq1, e_peq2, e_pne1, e_pne2, e_zeq1, e_zeq2, e_zne1, e_zne2, e_feq1, e_fne1, e_feq2, e_fne2, e_seq, e_sne, e_ta1, e_ta2, Nat.zero_add, Nat.add_zero, Bool.not_true, Bool.not_false]
  have el1 : (J.log.take (i + 1) ++ J.log.drop i).length ≤ 1000000 := by rw [List.length_append, List.length_take, List.length_drop]; omega
  refine Sl.app3 one_len rfl (fun y hy => ?_) s4 (a5.rds one_len) (by rw [List.length_take, List.length_drop]; omega) (by rw [List.length_take, List.length_drop]; omega) fun w6 v6 ob6 s6 hk6 ho6 => ?_
  · obtain ⟨k, hk, rfl⟩ := List.mem_iff_getElem.1 hy
    have hkl := hk
    rw [List.length_drop] at hkl
    rw [List.getElem_drop]
    have := (f4 (i + k) (by omega) (by omega)).scal
    simp only [one, List.all_cons, List.all_nil, this]; rfl
  · unfold s10_p2
    try simp only [e_fd, e_nck, e_pkt, e_pkf, e_gdtt, e_gdtf, e_gdft, e_gdff, e_ift, e_iff, e_not, e_ln, e_lnT, e_cp, e_cvi, e_ex20, e_ex21, e_ex30, e_ex31, e_ex32, e_add, e_sub, e_mul, e_quo, e_rem, e_and, e_or, e_xor, e_shl, e_shr, e_eql, e_neq, e_lss, e_leq, e_gtr, e_geq, e_beq, e_bne, e_peq1, e_peq2, e_pne1, e_pne2, e_zeq1, e_zeq2, e_zne1, e_zne2, e_feq1, e_fne1, e_feq2, e_fne2, e_seq, e_sne, e_ta1, e_ta2, Nat.zero_add, Nat.add_zero, Bool.not_true, Bool.not_false]
    have tl : tot (J.log.take (i + 1) ++ J.log.drop i) ≤ tot J.log + tot J.log := by
      have e : tot (J.log.take (i + 1) ++ J.log.drop i) = tot (J.log.take (i + 1)) + tot (J.log.drop i) := by unfold tot; rw [List.map_append, List.sum_append_nat]
      have a := tot_le (List.take_sublist (i + 1) J.log)
      have b := tot_le (List.drop_sublist i J.log)
      omega
    refine jput jn3 hk6 s6 ((zp.take (i + 1)).app (zp.drop i)) ho6 el1 (by omega) fun w7 M7 hx7 hk7 ho7 jn7 => ?_
    have hop : opn1 park { J with log := J.log.take (i + 1) ++ J.log.drop i, safe := (J.log.take (i + 1) ++ J.log.drop i).length } = none := by
      obtain ⟨σ1, r1, _⟩ := z.i.rp
      refine opn1_none (fun σ0 hne => ?_) ⟨σ1, r1⟩
      cases hq : rplL park J.log σ0 with
      | none => exact absurd hq hne
      | some σ2 => exact rpl_twice hq (by omega)
    have hjb : JBy { J with log := J.log.take (i + 1) ++ J.log.drop i, safe := (J.log.take (i + 1) ++ J.log.drop i).length } := z.i.jb.sub fun y hy => by
      rcases List.mem_append.1 hy with q | q
      · exact List.mem_of_mem_take q
      · exact List.mem_of_mem_drop q
    refine open_corrupt jn7 hop z.i.off z.i.lf hjb fun w8 hk8 => ?_
    unfold s10_p1
    refine hK w8 ?_
    have sz2 := hk2.size
    have own2 : ∀ b, OwnJ j2 lob2 b → w1.heap.size ≤ b := ho2
    have s1 := kd.size
    refine (((kd.trans hk2).trans kd2).then hk7 fun b hb q => ?_).then hk8 fun b hb q => ?_
    · rcases q with q | q
      · have := own2 b (.inr q); omega
      · have := own2 b (.inl q); omega
    · rcases q with q | q
      · have := own2 b (.inl q); omega
      · rcases ho7 b q with q | q
        · have := own2 b (.inr q); omega
        · have := (kd.trans hk2).size
          have := kd2.size
          omega
set_option maxHeartbeats 1000000 in
theorem gaps_walk (hs : Scr W v xs) : cl Tryz.prog 10 #[v] (fun e W' => e = .bool true ∧ Below W.heap.size W W') W := by
  apply c10
  unfold s10_p15
  refine small_ok hs (Kp.refl _ _) fun rr hr => ?_
  cases rr with
  | false =>
    simp only [Bool.not_false, e_fd, e_nck, e_pkt, e_pkf, e_gdtt, e_gdtf, e_gdft, e_gdff, e_ift, e_iff, e_not, e_ln, e_lnT, e_cp, e_cvi, e_ex20, e_ex21, e_ex30, e_ex31, e_ex32, e_add, e_sub, e_mul, e_quo, e_rem, e_and, e_or, e_xor, e_shl, e_shr, e_eql, e_neq, e_lss, e_leq, e_gtr, e_geq, e_beq, e_bne, e_peq1, e_peq2, e_pne1, e_pne2, e_zeq1, e_zeq2, e_zne1, e_zne2, e_feq1, e_fne1, e_feq2, e_fne2, e_seq, e_sne, e_ta1, e_ta2, Nat.zero_add, Nat.add_zero, Bool.not_true, Bool.not_false]
    exact ⟨trivial, (Kp.refl _ _).below'⟩
  | true =>
    obtain ⟨hxl, _⟩ := hr rfl
    simp only [Bool.not_true, e_fd, e_nck, e_pkt, e_pkf, e_gdtt, e_gdtf, e_gdft, e_gdff, e_ift, e_iff, e_not, e_ln, e_lnT, e_cp, e_cvi, e_ex20, e_ex21, e_ex30, e_ex31, e_ex32, e_add, e_sub, e_mul, e_quo, e_rem, e_and, e_or, e_xor, e_shl, e_shr, e_eql, e_neq, e_lss, e_leq, e_gtr, e_geq, e_beq, e_bne, e_peq1, e_peq2, e_pne1, e_pne2, e_zeq1, e_zeq2, e_zne1, e_zne2, e_feq1, e_fne1, e_feq2, e_fne2, e_seq, e_sne, e_ta1, e_ta2, Nat.zero_add, Nat.add_zero, Bool.not_true, Bool.not_false]
    refine pj_ok2 fun w1 hk1 => ?_
    refine newRig_ok ⟨by decide, by decide⟩ hk1 fun w2 r e z2 hk2 => ?_
    have hs0 := hs
    obtain ⟨its, h1, h2, h3⟩ := hs
    have hil : its.length = xs.length := by rw [← h1, List.length_map]
    refine h2.ln ?_
    have fin : ∀ {w' : World}, Kp Emp W w' → (Value.bool true = .bool true ∧ Below W.heap.size W w') := fun hk => ⟨rfl, hk.below'⟩
    unfold s10_p14
    refine loop_n its.length (fun i l w' => ∃ σ J, l = [v, P r 0, v, I (its.length : Nat), I (i : Nat)] ∧ Lz W Emp w' r e σ J ∧ Jlm 48 72 1200 J ∧ σ.seq ≤ ((i : Nat) : Int)) ⟨_, _, rfl, z2, Jlm.zero.2 (by decide), by simp [sg0]⟩ ?_ ?_
    · rintro i l w3 hi ⟨σ, J, rfl, z3, hl3, hq3⟩ B hB
      rw [s10_p14_Fe]
      unfold s10_p13
      have hp := h3 _ (List.getElem_mem hi)
      simp only [dlt hi, e_fd, e_nck, e_pkt, e_pkf, e_gdtt, e_gdtf, e_gdft, e_gdff, e_ift, e_iff, e_not, e_ln, e_lnT, e_cp, e_cvi, e_ex20, e_ex21, e_ex30, e_ex31, e_ex32, e_add, e_sub, e_mul, e_quo, e_rem, e_and, e_or, e_xor, e_shl, e_shr, e_eql, e_neq, e_lss, e_leq, e_gtr, e_geq, e_beq, e_bne, e_peq1, e_peq2, e_pne1, e_pne2, e_zeq1, e_zeq2, e_zne1, e_zne2, e_feq1, e_fne1, e_feq2, e_fne2, e_seq, e_sne, e_ta1, e_ta2, Nat.zero_add, Nat.add_zero, Bool.not_true, Bool.not_false]
      refine each_r rfl (h2.kp' z3.k) hi (opC_len _) (by simp only [opC, List.all_cons, List.all_nil, hp.1.scal]; rfl) fun w4 r4 hk4 hz4 => ?_
      have z4 := z3.emp hk4
      refine ldn_r r4 (show 0 + 4 ≤ 4 by decide) ?_
      refine isReq_ok (p := its[i]) fun w5 hk5 => ?_
      have z5 := z4.emp hk5
      have next : ∀ {w6 : World} {σ' : Sg} {J' : Jr}, Lz W Emp w6 r e σ' J' → Jlm 48 72 1200 J' → σ'.seq ≤ ((i + 1 : Nat) : Int) → s10_p12 (fun e W' => e = .bool true ∧ Below W.heap.size W W') B v (P r 0) v (I (its.length : Nat)) (I (i : Nat)) w6 := fun {w6 σ' J'} z6 hl6 hq6 => by
        unfold s10_p12
        try simp only [e_fd, e_nck, e_pkt, e_pkf, e_gdtt, e_gdtf, e_gdft, e_gdff, e_ift, e_iff, e_not, e_ln, e_lnT, e_cp, e_cvi, e_ex20, e_ex21, e_ex30, e_ex31, e_ex32, e_add, e_sub, e_mul, e_quo, e_rem, e_and, e_or, e_xor, e_shl, e_shr, e_eql, e_neq, e_lss, e_leq, e_gtr, e_geq, e_beq, e_bne, e_peq1, e_peq2, e_pne1, e_pne2, e_zeq1, e_zeq2, e_zne1, e_zne2, e_feq1, e_fne1, e_feq2, e_fne2, e_seq, e_sne, e_ta1, e_ta2, Nat.zero_add, Nat.add_zero, Bool.not_true, Bool.not_false]
        rw [inc i (by omega)]
        exact hB _ _ ⟨σ', J', rfl, z6, hl6, hq6⟩
      cases hk : (its[i].1.kind == 0 || its[i].1.kind == 4) with
      | false =>
        try simp only [e_fd, e_nck, e_pkt, e_pkf, e_gdtt, e_gdtf, e_gdft, e_gdff, e_ift, e_iff, e_not, e_ln, e_lnT, e_cp, e_cvi, e_ex20, e_ex21, e_ex30, e_ex31, e_ex32, e_add, e_sub, e_mul, e_quo, e_rem, e_and, e_or, e_xor, e_shl, e_shr, e_eql, e_neq, e_lss, e_leq, e_gtr, e_geq, e_beq, e_bne, e_peq1, e_peq2, e_pne1, e_pne2, e_zeq1, e_zeq2, e_zne1, e_zne2, e_feq1, e_fne1, e_feq2, e_fne2, e_seq, e_sne, e_ta1, e_ta2, Nat.zero_add, Nat.add_zero, Bool.not_true, Bool.not_false]
        exact next z5 hl3 (by omega)
      | true =>
        try simp only [e_fd, e_nck, e_pkt, e_pkf, e_gdtt, e_gdtf, e_gdft, e_gdff, e_ift, e_iff, e_not, e_ln, e_lnT, e_cp, e_cvi, e_ex20, e_ex21, e_ex30, e_ex31, e_ex32, e_add, e_sub, e_mul, e_quo, e_rem, e_and, e_or, e_xor, e_shl, e_shr, e_eql, e_neq, e_lss, e_leq, e_gtr, e_geq, e_beq, e_bne, e_peq1, e_peq2, e_pne1, e_pne2, e_zeq1, e_zeq2, e_zne1, e_zne2, e_feq1, e_fne1, e_feq2, e_fne2, e_seq, e_sne, e_ta1, e_ta2, Nat.zero_add, Nat.add_zero, Bool.not_true, Bool.not_false]
        refine ld1_r (v := its[i].2) (hk5.row' r4) rfl ?_
        have szz := z5.k.size
        refine z5.send (by omega) (hp.1.kp' z5.k) (fun b q => by omega) hp.2.1 fun w6 v6 b6 S6 z6 s6 hb6 hk6 _ _ => ?_
        refine next (z6.sub fun c q => q.elim) (hl3.hnd park_cv park_mb (by decide) z5.i hp.2.1 (by omega)) ?_
        have := hndS_q park its[i].1.bs σ J
        omega
    · rintro l w3 ⟨σ, J, rfl, z3, hl3, hq3⟩ B
      rw [s10_p14_Fe]
      unfold s10_p13
      simp only [dnlt, e_fd, e_nck, e_pkt, e_pkf, e_gdtt, e_gdtf, e_gdft, e_gdff, e_ift, e_iff, e_not, e_ln, e_lnT, e_cp, e_cvi, e_ex20, e_ex21, e_ex30, e_ex31, e_ex32, e_add, e_sub, e_mul, e_quo, e_rem, e_and, e_or, e_xor, e_shl, e_shr, e_eql, e_neq, e_lss, e_leq, e_gtr, e_geq, e_beq, e_bne, e_peq1, e_peq2, e_pne1, e_pne2, e_zeq1, e_zeq2, e_zne1, e_zne2, e_feq1, e_fne1, e_feq2, e_fne2, e_seq, e_sne, e_ta1, e_ta2, Nat.zero_add, Nat.add_zero, Bool.not_true, Bool.not_false]
      unfold s10_p11
      obtain ⟨M, m, h, hr, hM, hV⟩ := z3.ex
      obtain ⟨sv, lv, rj, hsv, evs, f1, f2, f3, f4⟩ := h.jn.ex
      try simp only [e_fd, e_nck, e_pkt, e_pkf, e_gdtt, e_gdtf, e_gdft, e_gdff, e_ift, e_iff, e_not, e_ln, e_lnT, e_cp, e_cvi, e_ex20, e_ex21, e_ex30, e_ex31, e_ex32, e_add, e_sub, e_mul, e_quo, e_rem, e_and, e_or, e_xor, e_shl, e_shr, e_eql, e_neq, e_lss, e_leq, e_gtr, e_geq, e_beq, e_bne, e_peq1, e_peq2, e_pne1, e_pne2, e_zeq1, e_zeq2, e_zne1, e_zne2, e_feq1, e_fne1, e_feq2, e_fne2, e_seq, e_sne, e_ta1, e_ta2, Nat.zero_add, Nat.add_zero, Bool.not_true, Bool.not_false]
      refine ld1_r hr rfl ?_
      try simp only [e_fd, e_nck, e_pkt, e_pkf, e_gdtt, e_gdtf, e_gdft, e_gdff, e_ift, e_iff, e_not, e_ln, e_lnT, e_cp, e_cvi, e_ex20, e_ex21, e_ex30, e_ex31, e_ex32, e_add, e_sub, e_mul, e_quo, e_rem, e_and, e_or, e_xor, e_shl, e_shr, e_eql, e_neq, e_lss, e_leq, e_gtr, e_geq, e_beq, e_bne, e_peq1, e_peq2, e_pne1, e_pne2, e_zeq1, e_zeq2, e_zne1, e_zne2, e_feq1, e_fne1, e_feq2, e_fne2, e_seq, e_sne, e_ta1, e_ta2, Nat.zero_add, Nat.add_zero, Bool.not_true, Bool.not_false]
      refine ld1_r (v := lv) rj rfl ?_
      refine f1.ln ?_
      rw [f3]
      try simp only [e_fd, e_nck, e_pkt, e_pkf, e_gdtt, e_gdtf, e_gdft, e_gdff, e_ift, e_iff, e_not, e_ln, e_lnT, e_cp, e_cvi, e_ex20, e_ex21, e_ex30, e_ex31, e_ex32, e_add, e_sub, e_mul, e_quo, e_rem, e_and, e_or, e_xor, e_shl, e_shr, e_eql, e_neq, e_lss, e_leq, e_gtr, e_geq, e_beq, e_bne, e_peq1, e_peq2, e_pne1, e_pne2, e_zeq1, e_zeq2, e_zne1, e_zne2, e_feq1, e_fne1, e_feq2, e_fne2, e_seq, e_sne, e_ta1, e_ta2, Nat.zero_add, Nat.add_zero, Bool.not_true, Bool.not_false]
      obtain ⟨n, hn⟩ : ∃ n, J.log.length = n := ⟨_, rfl⟩
      rw [hn]
      have p6 : ∀ w4, Kp Emp w3 w4 → s10_p6 (fun e W' => e = .bool true ∧ Below W.heap.size W W') v (P r 0) (I (n : Nat)) w4 := fun w4 hk4 => by
        have z4 := z3.emp hk4
        unfold s10_p6
        try simp only [e_fd, e_nck, e_pkt, e_pkf, e_gdtt, e_gdtf, e_gdft, e_gdff, e_ift, e_iff, e_not, e_ln, e_lnT, e_cp, e_cvi, e_ex20, e_ex21, e_ex30, e_ex31, e_ex32, e_add, e_sub, e_mul, e_quo, e_rem, e_and, e_or, e_xor, e_shl, e_shr, e_eql, e_neq, e_lss, e_leq, e_gtr, e_geq, e_beq, e_bne, e_peq1, e_peq2, e_pne1, e_pne2, e_zeq1, e_zeq2, e_zne1, e_zne2, e_feq1, e_fne1, e_feq2, e_fne2, e_seq, e_sne, e_ta1, e_ta2, Nat.zero_add, Nat.add_zero, Bool.not_true, Bool.not_false]
        unfold s10_p5
        by_cases h5 : (1 : Int) ≤ ((n : Nat) : Int)
        · simp only [h5, decide_true, e_fd, e_nck, e_pkt, e_pkf, e_gdtt, e_gdtf, e_gdft, e_gdff, e_ift, e_iff, e_not, e_ln, e_lnT, e_cp, e_cvi, e_ex20, e_ex21, e_ex30, e_ex31, e_ex32, e_add, e_sub, e_mul, e_quo, e_rem, e_and, e_or, e_xor, e_shl, e_shr, e_eql, e_neq, e_lss, e_leq, e_gtr, e_geq, e_beq, e_bne, e_peq1, e_peq2, e_pne1, e_pne2, e_zeq1, e_zeq2, e_zne1, e_zne2, e_feq1, e_fne1, e_feq2, e_fne2, e_seq, e_sne, e_ta1, e_ta2, Nat.zero_add, Nat.add_zero, Bool.not_true, Bool.not_false]
          exact twice_part hs0 hxl z4 hl3 hn (by omega) fun w5 hk5 => fin (z4.k.trans hk5)
        · simp only [h5, decide_false, e_fd, e_nck, e_pkt, e_pkf, e_gdtt, e_gdtf, e_gdft, e_gdff, e_ift, e_iff, e_not, e_ln, e_lnT, e_cp, e_cvi, e_ex20, e_ex21, e_ex30, e_ex31, e_ex32, e_add, e_sub, e_mul, e_quo, e_rem, e_and, e_or, e_xor, e_shl, e_shr, e_eql, e_neq, e_lss, e_leq, e_gtr, e_geq, e_beq, e_bne, e_peq1, e_peq2, e_pne1, e_pne2, e_zeq1, e_zeq2, e_zne1, e_zne2, e_feq1, e_fne1, e_feq2, e_fne2, e_seq, e_sne, e_ta1, e_ta2, Nat.zero_add, Nat.add_zero, Bool.not_true, Bool.not_false]
          unfold s10_p1
          exact fin z4.k
      unfold s10_p10
      by_cases h5 : (2 : Int) ≤ ((n : Nat) : Int)
      · simp only [h5, decide_true, e_fd, e_nck, e_pkt, e_pkf, e_gdtt, e_gdtf, e_gdft, e_gdff, e_ift, e_iff, e_not, e_ln, e_lnT, e_cp, e_cvi, e_ex20, e_ex21, e_ex30, e_ex31, e_ex32, e_add, e_sub, e_mul, e_quo, e_rem, e_and, e_or, e_xor, e_shl, e_shr, e_eql, e_neq, e_lss, e_leq, e_gtr, e_geq, e_beq, e_bne, e_peq1, e_peq2, e_pne1, e_pne2, e_zeq1, e_zeq2, e_zne1, e_zne2, e_feq1, e_fne1, e_feq2, e_fne2, e_seq, e_sne, e_ta1, e_ta2, Nat.zero_add, Nat.add_zero, Bool.not_true, Bool.not_false]
        exact gap_part hs0 hxl z3 hl3 hn (by omega) p6
      · simp only [h5, decide_false, e_fd, e_nck, e_pkt, e_pkf, e_gdtt, e_gdtf, e_gdft, e_gdff, e_ift, e_iff, e_not, e_ln, e_lnT, e_cp, e_cvi, e_ex20, e_ex21, e_ex30, e_ex31, e_ex32, e_add, e_sub, e_mul, e_quo, e_rem, e_and, e_or, e_xor, e_shl, e_shr, e_eql, e_neq, e_lss, e_leq, e_gtr, e_geq, e_beq, e_bne, e_peq1, e_peq2, e_pne1, e_pne2, e_zeq1, e_zeq2, e_zne1, e_zne2, e_feq1, e_fne1, e_feq2, e_fne2, e_seq, e_sne, e_ta1, e_ta2, Nat.zero_add, Nat.add_zero, Bool.not_true, Bool.not_false]
        exact p6 w3 (Kp.refl _ _)
end
end Go.Proofs.Qxb6500896aGreat
