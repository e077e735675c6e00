import Derived.Test.Qxb6500896aGreatK36
namespace Go.Proofs.Qxb6500896aGreat
open Go.Sh Go.RowKit
set_option linter.unusedVariables false
set_option linter.unusedSimpArgs false

def tRemove (id : Int) (ls : List (List Int)) : List (List Int) := ls.map fun l => l.filter (· != id)
theorem tRemove_len (id : Int) (ls : List (List Int)) : (tRemove id ls).length = ls.length := by unfold tRemove; rw [List.length_map]
section
variable {F G M M' S : Nat → Prop} {w w' w1 : World} {v lv rv : Value} {n wb i : Nat} {lobs : List (Option Nat)} {C : Cfg} {ls : List (List Int)} {K : Value → World → Prop} {id : Int}
abbrev LiK (M : Nat → Prop) (w : World) (n wb : Nat) (lobs : List (Option Nat)) (C : Cfg) (ls' : List (List Int)) (X : World → Prop) : Prop :=
  ∀ w' M' lobs', Ext M M' w w' → Kp (OwnL n wb lobs) w w' → (∀ b, some b ∈ lobs' → some b ∈ lobs ∨ w.heap.size ≤ b) → Li M' w' n wb lobs' C ls' → X w'
theorem li_it (h : Li M w n wb lobs C ls) (hi : i < ls.length) : ∃ v ob, lobs[i]? = some ob ∧ Sl iC 1 w 3 ob v ls[i] ∧ (∀ b, ob = some b → M b) ∧ (∃ l, Row w wb 79 l ∧ l[i]? = some v ∧ l.length = ls.length) := by
  obtain ⟨cl, its, r, hc, h1, h2, h3, h4, h5⟩ := h.ex
  have hil : its.length = ls.length := by rw [← h1, List.length_map]
  have hi2 : i < its.length := by omega
  have ei : its[i].ids = ls[i] := by
    have : (its.map Lm.ids)[i]? = ls[i]? := by rw [h1]
    rw [List.getElem?_map, List.getElem?_eq_getElem hi2, List.getElem?_eq_getElem hi] at this
    exact Option.some.inj this
  obtain ⟨g1, g2⟩ := h4 _ (List.getElem_mem hi2)
  rw [ei] at g1
  refine ⟨its[i].val, its[i].blk, ?_, g1, g2, _, h3, ?_, by rw [List.length_map]; exact hil⟩
  · rw [← h2, List.getElem?_map, List.getElem?_eq_getElem hi2]; rfl
  · rw [List.getElem?_map, List.getElem?_eq_getElem hi2]; rfl
/-- a line gets another slice -/
theorem li_set {p : Lm} {kk : World → Prop} (h : Li M w n wb lobs C ls) (hi : i < ls.length) (hs : Sl iC 1 w 3 p.blk p.val p.ids) (hM : ∀ b, p.blk = some b → M b) (hd : ∀ b, p.blk = some b → ∀ k, k ≠ i → lobs[k]? ≠ some (some b)) (hpl : p.ids.length ≤ 16777216)
    (hK : ∀ w', Li M w' n wb (lobs.set i p.blk) C (ls.set i p.ids) → Kp (fun b => b = wb) w w' → w'.heap.size = w.heap.size → kk w') : st1 (P wb i) p.val kk w := by
  obtain ⟨cl, its, r, hc, h1, h2, h3, h4, h5⟩ := h.ex
  have hil : its.length = ls.length := by rw [← h1, List.length_map]
  refine st1_r h3 (by rw [List.length_map]; omega) (sl_scal hs) fun w1 r1 hk1 hz1 => ?_
  have hx1 := Ext.same h.lt hk1
  have hS : ∀ b, b = wb → b < w.heap.size → M b := fun b q _ => q ▸ h.mw
  have nwb : ∀ {ob : Option Nat} {v : Value} {l : List Int}, Sl iC 1 w 3 ob v l → ∀ b, ob = some b → ¬ b = wb := fun s b e q => by
    obtain ⟨l2, hl2⟩ := s.row e
    exact row_ne hl2 h3 (by decide) q
  refine hK w1 ⟨⟨cl, its.set i p, ?_, hc.ext hx1 hk1 hS, by rw [List.map_set, h1], by rw [List.map_set, h2], ?_, fun q hq => ?_, ?_⟩, h.mn, h.mw, fun b q => by have := h.lt b q; omega, by rw [List.length_set]; exact h.len, fun l hl => ?_⟩ hk1 hz1
  · rw [List.length_set]; exact hk1.row r (row_ne r h3 (by decide))
  · rw [List.map_set]; exact r1
  · rcases List.mem_or_eq_of_mem_set hq with q2 | q2
    · exact ⟨(h4 q q2).1.kp hk1 (nwb (h4 q q2).1), (h4 q q2).2⟩
    · rw [q2]; exact ⟨hs.kp hk1 (nwb hs), hM⟩
  · have hblk : ∀ k (hk : k < its.length), lobs[k]? = some its[k].blk := fun k hk => by rw [← h2, List.getElem?_map, List.getElem?_eq_getElem hk]; rfl
    rw [List.pairwise_iff_getElem] at h5 ⊢
    intro a b ha hb hab c hc1 hc2
    rw [List.length_set] at ha hb
    rw [List.getElem_set] at hc1 hc2
    split at hc1 <;> split at hc2
    · omega
    · exact hd c hc1 b (by omega) (by rw [hblk b hb, hc2])
    · exact hd c hc2 a (by omega) (by rw [hblk a ha, hc1])
    · exact h5 a b ha hb hab c hc1 hc2
  · rcases List.mem_or_eq_of_mem_set hl with q | q
    · exact h.each l q
    · rw [q]; exact hpl
theorem Li.wrow (h : Li M w n wb lobs C ls) : ∃ cl, Row w n 231 (cl ++ [.slice (some ⟨wb, 0, none⟩) ls.length ls.length]) ∧ cl.length = 14 := by
  obtain ⟨cl, its, r, hc, _⟩ := h.ex
  exact ⟨cl, r, hc.len⟩
theorem ixw {m : Nat} {X : Value → World → Prop} (hi : i < m) (hX : X (P wb i) w) : ixs 1 (.slice (some ⟨wb, 0, none⟩) m m) (I (i : Nat)) X w := by
  refine ⟨⟨by omega, by omega⟩, ?_⟩
  have e0 : ((i : Nat) : Int).toNat * 1 = i := by omega
  rw [e0, add_mk, Nat.zero_add]
  exact hX
theorem remove_ok (h : Li M w n wb lobs C ls) (hK : LiK M w n wb lobs C (tRemove id ls) (K (.tuple #[]))) : cl Tryz.prog 235 #[P n 0, I id] K w := by
  have hll := h.len
  obtain ⟨cl0, r0, hcl⟩ := h.wrow
  apply c235
  unfold s235_p9
  try simp only [e_fd, e_nck, e_pkt, e_pkf, e_gdtt, e_gdtf, e_gdft, e_gdff, e_ift, e_iff, e_not, e_ln, e_lnT, e_cp, e_cvi, e_ex20, e_ex21, e_ex30, e_ex31, e_ex32, e_add, e_sub, e_mul, e_quo, e_rem, e_and, e_or, e_xor, e_shl, e_shr, e_eql, e_neq, e_lss, e_leq, e_gtr, e_geq, e_beq, e_bne, e_peq1, e_peq2, e_pne1, e_pne2, e_zeq1, e_zeq2, e_zne1, e_zne2, e_feq1, e_fne1, e_feq2, e_fne2, e_seq, e_sne, e_ta1, e_ta2, Nat.zero_add, Nat.add_zero, Bool.not_true, Bool.not_false]
  refine ld1_r r0 (by rw [List.getElem?_append_right (by omega), hcl]; rfl) ?_
  try simp only [e_fd, e_nck, e_pkt, e_pkf, e_gdtt, e_gdtf, e_gdft, e_gdff, e_ift, e_iff, e_not, e_ln, e_lnT, e_cp, e_cvi, e_ex20, e_ex21, e_ex30, e_ex31, e_ex32, e_add, e_sub, e_mul, e_quo, e_rem, e_and, e_or, e_xor, e_shl, e_shr, e_eql, e_neq, e_lss, e_leq, e_gtr, e_geq, e_beq, e_bne, e_peq1, e_peq2, e_pne1, e_pne2, e_zeq1, e_zeq2, e_zne1, e_zne2, e_feq1, e_fne1, e_feq2, e_fne2, e_seq, e_sne, e_ta1, e_ta2, Nat.zero_add, Nat.add_zero, Bool.not_true, Bool.not_false]
  unfold s235_p8
  refine loop_n ls.length (fun i l w' => l = [P n 0, I id, .slice (some ⟨wb, 0, none⟩) ls.length ls.length, I (ls.length : Nat), I (i : Nat)] ∧ ∃ M' lobs', Ext M M' w w' ∧ Kp (OwnL n wb lobs) w w' ∧ (∀ b, some b ∈ lobs' → some b ∈ lobs ∨ w.heap.size ≤ b) ∧ Li M' w' n wb lobs' C (tRemove id (ls.take i) ++ ls.drop i)) ⟨rfl, M, lobs, Ext.same h.lt (Kp.refl (fun _ => False) _), Kp.refl _ _, fun b q => .inl q, by simpa [tRemove] using h⟩ ?_ ?_
  · rintro i l w2 hi ⟨rfl, M2, lobs2, hx2, k2, ho2, li2⟩ B hB
    have hlen2 : (tRemove id (ls.take i) ++ ls.drop i).length = ls.length := by unfold tRemove; rw [List.length_append, List.length_map, List.length_take, List.length_drop]; omega
    have hi2 : i < (tRemove id (ls.take i) ++ ls.drop i).length := by omega
    have hg : (tRemove id (ls.take i) ++ ls.drop i)[i]'hi2 = ls[i] := by
      rw [List.getElem_append_right (by rw [tRemove_len, List.length_take]; omega)]
      simp only [tRemove_len, List.length_take, List.getElem_drop]
      congr 1
      omega
    have hset : (tRemove id (ls.take i) ++ ls.drop i).set i (ls[i].filter (· != id)) = tRemove id (ls.take (i + 1)) ++ ls.drop (i + 1) := by
      unfold tRemove
      rw [List.set_append_right _ _ (by rw [List.length_map, List.length_take]; omega), List.length_map, List.length_take, show i - min i ls.length = 0 by omega, List.drop_eq_getElem_cons hi, List.set_cons_zero, List.take_succ_eq_append_getElem hi, List.map_append, List.append_assoc]
      rfl
    have hev := h.each _ (List.getElem_mem hi)
    obtain ⟨v, ob, hob, sv, hvM, lw, rw2, hlw, hlwl⟩ := li_it li2 hi2
    rw [hg] at sv
    rw [s235_p8_Fe]
    unfold s235_p7
    try simp only [e_fd, e_nck, e_pkt, e_pkf, e_gdtt, e_gdtf, e_gdft, e_gdff, e_ift, e_iff, e_not, e_ln, e_lnT, e_cp, e_cvi, e_ex20, e_ex21, e_ex30, e_ex31, e_ex32, e_add, e_sub, e_mul, e_quo, e_rem, e_and, e_or, e_xor, e_shl, e_shr, e_eql, e_neq, e_lss, e_leq, e_gtr, e_geq, e_beq, e_bne, e_peq1, e_peq2, e_pne1, e_pne2, e_zeq1, e_zeq2, e_zne1, e_zne2, e_feq1, e_fne1, e_feq2, e_fne2, e_seq, e_sne, e_ta1, e_ta2, Nat.zero_add, Nat.add_zero, Bool.not_true, Bool.not_false]
    rw [dlt hi]
    try simp only [e_fd, e_nck, e_pkt, e_pkf, e_gdtt, e_gdtf, e_gdft, e_gdff, e_ift, e_iff, e_not, e_ln, e_lnT, e_cp, e_cvi, e_ex20, e_ex21, e_ex30, e_ex31, e_ex32, e_add, e_sub, e_mul, e_quo, e_rem, e_and, e_or, e_xor, e_shl, e_shr, e_eql, e_neq, e_lss, e_leq, e_gtr, e_geq, e_beq, e_bne, e_peq1, e_peq2, e_pne1, e_pne2, e_zeq1, e_zeq2, e_zne1, e_zne2, e_feq1, e_fne1, e_feq2, e_fne2, e_seq, e_sne, e_ta1, e_ta2, Nat.zero_add, Nat.add_zero, Bool.not_true, Bool.not_false]
    unfold s235_p6
    refine ixw hi ?_
    refine ld1_r rw2 hlw ?_
    refine Sl.empty (f := iC) (k := 1) fun w3 s3 hk3 hz3 => ?_
    have av : Ar iC 1 (fun b => b < w2.heap.size) w2 v ls[i] := sv.ar iC_len (by omega) fun b e => by
      obtain ⟨l2, hl2⟩ := sv.row e
      exact hl2.lt
    refine av.ln ?_
    unfold s235_p5
    refine loop_n ls[i].length (fun k l w' => ∃ v' b', l = [P n 0, I id, I (i : Nat), v', .slice (some ⟨wb, 0, none⟩) ls.length ls.length, I (ls.length : Nat), I (i : Nat), v, I (ls[i].length : Nat), I (k : Nat)] ∧ Kp Emp w2 w' ∧ w2.heap.size ≤ b' ∧ Sl iC 1 w' 3 (some b') v' ((ls[i].take k).filter (· != id))) ⟨_, _, rfl, hk3, Nat.le_refl _, by simpa using s3⟩ ?_ ?_
    · rintro k l w4 hk ⟨v4, b4, rfl, k4, hb4, s4⟩ B2 hB2
      rw [s235_p5_Fe]
      unfold s235_p4
      try simp only [e_fd, e_nck, e_pkt, e_pkf, e_gdtt, e_gdtf, e_gdft, e_gdff, e_ift, e_iff, e_not, e_ln, e_lnT, e_cp, e_cvi, e_ex20, e_ex21, e_ex30, e_ex31, e_ex32, e_add, e_sub, e_mul, e_quo, e_rem, e_and, e_or, e_xor, e_shl, e_shr, e_eql, e_neq, e_lss, e_leq, e_gtr, e_geq, e_beq, e_bne, e_peq1, e_peq2, e_pne1, e_pne2, e_zeq1, e_zeq2, e_zne1, e_zne2, e_feq1, e_fne1, e_feq2, e_fne2, e_seq, e_sne, e_ta1, e_ta2, Nat.zero_add, Nat.add_zero, Bool.not_true, Bool.not_false]
      rw [dlt hk]
      try simp only [e_fd, e_nck, e_pkt, e_pkf, e_gdtt, e_gdtf, e_gdft, e_gdff, e_ift, e_iff, e_not, e_ln, e_lnT, e_cp, e_cvi, e_ex20, e_ex21, e_ex30, e_ex31, e_ex32, e_add, e_sub, e_mul, e_quo, e_rem, e_and, e_or, e_xor, e_shl, e_shr, e_eql, e_neq, e_lss, e_leq, e_gtr, e_geq, e_beq, e_bne, e_peq1, e_peq2, e_pne1, e_pne2, e_zeq1, e_zeq2, e_zne1, e_zne2, e_feq1, e_fne1, e_feq2, e_fne2, e_seq, e_sne, e_ta1, e_ta2, Nat.zero_add, Nat.add_zero, Bool.not_true, Bool.not_false]
      refine (av.kp' k4).ix hk fun bb o _ hcl => ?_
      refine hcl.ld0 rfl ?_
      try simp only [e_fd, e_nck, e_pkt, e_pkf, e_gdtt, e_gdtf, e_gdft, e_gdff, e_ift, e_iff, e_not, e_ln, e_lnT, e_cp, e_cvi, e_ex20, e_ex21, e_ex30, e_ex31, e_ex32, e_add, e_sub, e_mul, e_quo, e_rem, e_and, e_or, e_xor, e_shl, e_shr, e_eql, e_neq, e_lss, e_leq, e_gtr, e_geq, e_beq, e_bne, e_peq1, e_peq2, e_pne1, e_pne2, e_zeq1, e_zeq2, e_zne1, e_zne2, e_feq1, e_fne1, e_feq2, e_fne2, e_seq, e_sne, e_ta1, e_ta2, Nat.zero_add, Nat.add_zero, Bool.not_true, Bool.not_false]
      have hfl : ((ls[i].take k).filter (· != id)).length ≤ k := Nat.le_trans (List.length_filter_le _ _) (by rw [List.length_take]; omega)
      cases hq : (ls[i][k] != id) with
      | true =>
        try simp only [e_fd, e_nck, e_pkt, e_pkf, e_gdtt, e_gdtf, e_gdft, e_gdff, e_ift, e_iff, e_not, e_ln, e_lnT, e_cp, e_cvi, e_ex20, e_ex21, e_ex30, e_ex31, e_ex32, e_add, e_sub, e_mul, e_quo, e_rem, e_and, e_or, e_xor, e_shl, e_shr, e_eql, e_neq, e_lss, e_leq, e_gtr, e_geq, e_beq, e_bne, e_peq1, e_peq2, e_pne1, e_pne2, e_zeq1, e_zeq2, e_zne1, e_zne2, e_feq1, e_fne1, e_feq2, e_fne2, e_seq, e_sne, e_ta1, e_ta2, Nat.zero_add, Nat.add_zero, Bool.not_true, Bool.not_false]
        refine s4.app iC_len rfl ls[i][k] rfl (by omega) (by omega) rfl fun w5 v5 ob5 s5 hk5 ho5 => ?_
        have hb5 : ∃ b5, ob5 = some b5 ∧ w2.heap.size ≤ b5 := by
          rcases ho5 with q | ⟨b5, q, hb5⟩
          · exact ⟨b4, q, hb4⟩
          · exact ⟨b5, q, by have := k4.size; omega⟩
        obtain ⟨b5, rfl, hb5⟩ := hb5
        unfold s235_p3
        try simp only [e_fd, e_nck, e_pkt, e_pkf, e_gdtt, e_gdtf, e_gdft, e_gdff, e_ift, e_iff, e_not, e_ln, e_lnT, e_cp, e_cvi, e_ex20, e_ex21, e_ex30, e_ex31, e_ex32, e_add, e_sub, e_mul, e_quo, e_rem, e_and, e_or, e_xor, e_shl, e_shr, e_eql, e_neq, e_lss, e_leq, e_gtr, e_geq, e_beq, e_bne, e_peq1, e_peq2, e_pne1, e_pne2, e_zeq1, e_zeq2, e_zne1, e_zne2, e_feq1, e_fne1, e_feq2, e_fne2, e_seq, e_sne, e_ta1, e_ta2, Nat.zero_add, Nat.add_zero, Bool.not_true, Bool.not_false]
        rw [inc k (by omega)]
        refine hB2 _ w5 ⟨v5, b5, rfl, k4.then hk5 fun c hc q => by cases q; omega, hb5, ?_⟩
        rw [List.take_succ_eq_append_getElem hk, List.filter_append, List.filter_cons_of_pos (by exact hq), List.filter_nil]
        exact s5
      | false =>
        try simp only [e_fd, e_nck, e_pkt, e_pkf, e_gdtt, e_gdtf, e_gdft, e_gdff, e_ift, e_iff, e_not, e_ln, e_lnT, e_cp, e_cvi, e_ex20, e_ex21, e_ex30, e_ex31, e_ex32, e_add, e_sub, e_mul, e_quo, e_rem, e_and, e_or, e_xor, e_shl, e_shr, e_eql, e_neq, e_lss, e_leq, e_gtr, e_geq, e_beq, e_bne, e_peq1, e_peq2, e_pne1, e_pne2, e_zeq1, e_zeq2, e_zne1, e_zne2, e_feq1, e_fne1, e_feq2, e_fne2, e_seq, e_sne, e_ta1, e_ta2, Nat.zero_add, Nat.add_zero, Bool.not_true, Bool.not_false]
        unfold s235_p3
        try simp only [e_fd, e_nck, e_pkt, e_pkf, e_gdtt, e_gdtf, e_gdft, e_gdff, e_ift, e_iff, e_not, e_ln, e_lnT, e_cp, e_cvi, e_ex20, e_ex21, e_ex30, e_ex31, e_ex32, e_add, e_sub, e_mul, e_quo, e_rem, e_and, e_or, e_xor, e_shl, e_shr, e_eql, e_neq, e_lss, e_leq, e_gtr, e_geq, e_beq, e_bne, e_peq1, e_peq2, e_pne1, e_pne2, e_zeq1, e_zeq2, e_zne1, e_zne2, e_feq1, e_fne1, e_feq2, e_fne2, e_seq, e_sne, e_ta1, e_ta2, Nat.zero_add, Nat.add_zero, Bool.not_true, Bool.not_false]
        rw [inc k (by omega)]
        refine hB2 _ w4 ⟨v4, b4, rfl, k4, hb4, ?_⟩
        rw [List.take_succ_eq_append_getElem hk, List.filter_append, List.filter_cons_of_neg (by rw [hq]; simp), List.filter_nil, List.append_nil]
        exact s4
    · rintro l w4 ⟨v4, b4, rfl, k4, hb4, s4⟩ B2
      rw [s235_p5_Fe]
      unfold s235_p4
      try simp only [e_fd, e_nck, e_pkt, e_pkf, e_gdtt, e_gdtf, e_gdft, e_gdff, e_ift, e_iff, e_not, e_ln, e_lnT, e_cp, e_cvi, e_ex20, e_ex21, e_ex30, e_ex31, e_ex32, e_add, e_sub, e_mul, e_quo, e_rem, e_and, e_or, e_xor, e_shl, e_shr, e_eql, e_neq, e_lss, e_leq, e_gtr, e_geq, e_beq, e_bne, e_peq1, e_peq2, e_pne1, e_pne2, e_zeq1, e_zeq2, e_zne1, e_zne2, e_feq1, e_fne1, e_feq2, e_fne2, e_seq, e_sne, e_ta1, e_ta2, Nat.zero_add, Nat.add_zero, Bool.not_true, Bool.not_false]
      rw [dnlt]
      try simp only [e_fd, e_nck, e_pkt, e_pkf, e_gdtt, e_gdtf, e_gdft, e_gdff, e_ift, e_iff, e_not, e_ln, e_lnT, e_cp, e_cvi, e_ex20, e_ex21, e_ex30, e_ex31, e_ex32, e_add, e_sub, e_mul, e_quo, e_rem, e_and, e_or, e_xor, e_shl, e_shr, e_eql, e_neq, e_lss, e_leq, e_gtr, e_geq, e_beq, e_bne, e_peq1, e_peq2, e_pne1, e_pne2, e_zeq1, e_zeq2, e_zne1, e_zne2, e_feq1, e_fne1, e_feq2, e_fne2, e_seq, e_sne, e_ta1, e_ta2, Nat.zero_add, Nat.add_zero, Bool.not_true, Bool.not_false]
      rw [List.take_length] at s4
      unfold s235_p2
      have hx4 : Ext M2 (fun b => M2 b ∨ b = b4) w2 w4 := Ext.add li2.lt k4 hb4 s4.lt
      have li4 := li2.ext hx4 k4 (fun _ q => q.elim) (fun _ _ q => q)
      obtain ⟨cl4, r4, hcl4⟩ := li4.wrow
      try simp only [e_fd, e_nck, e_pkt, e_pkf, e_gdtt, e_gdtf, e_gdft, e_gdff, e_ift, e_iff, e_not, e_ln, e_lnT, e_cp, e_cvi, e_ex20, e_ex21, e_ex30, e_ex31, e_ex32, e_add, e_sub, e_mul, e_quo, e_rem, e_and, e_or, e_xor, e_shl, e_shr, e_eql, e_neq, e_lss, e_leq, e_gtr, e_geq, e_beq, e_bne, e_peq1, e_peq2, e_pne1, e_pne2, e_zeq1, e_zeq2, e_zne1, e_zne2, e_feq1, e_fne1, e_feq2, e_fne2, e_seq, e_sne, e_ta1, e_ta2, Nat.zero_add, Nat.add_zero, Bool.not_true, Bool.not_false]
      refine ld1_r r4 (by rw [List.getElem?_append_right (by omega), hcl4]; rfl) ?_
      rw [hlen2]
      refine ixw hi ?_
      have hb4n : ∀ b, (some b4 : Option Nat) = some b → ∀ k, k ≠ i → lobs2[k]? ≠ some (some b) := fun b e k _ q => by
        cases e
        have := li2.lt _ (li2.own (.inr (.inr (List.mem_of_getElem? q))))
        omega
      refine li_set (p := ⟨ls[i].filter (· != id), v4, some b4⟩) li4 hi2 s4 (fun b e => by cases e; exact .inr rfl) hb4n (Nat.le_trans (List.length_filter_le _ _) (by omega)) fun w5 li5 hk5 hz5 => ?_
      unfold s235_p1
      try simp only [e_fd, e_nck, e_pkt, e_pkf, e_gdtt, e_gdtf, e_gdft, e_gdff, e_ift, e_iff, e_not, e_ln, e_lnT, e_cp, e_cvi, e_ex20, e_ex21, e_ex30, e_ex31, e_ex32, e_add, e_sub, e_mul, e_quo, e_rem, e_and, e_or, e_xor, e_shl, e_shr, e_eql, e_neq, e_lss, e_leq, e_gtr, e_geq, e_beq, e_bne, e_peq1, e_peq2, e_pne1, e_pne2, e_zeq1, e_zeq2, e_zne1, e_zne2, e_feq1, e_fne1, e_feq2, e_fne2, e_seq, e_sne, e_ta1, e_ta2, Nat.zero_add, Nat.add_zero, Bool.not_true, Bool.not_false]
      rw [inc i (by omega)]
      simp only at li5
      rw [hset] at li5
      have hx5 := Ext.same li4.lt hk5
      refine hB _ w5 ⟨rfl, _, _, (hx2.trans hx4).trans hx5, (k2.trans k4.none).trans (hk5.mono fun b _ q => .inr (.inl q)), fun b q => ?_, li5⟩
      rcases List.mem_or_eq_of_mem_set q with q | q
      · exact ho2 b q
      · cases q; exact .inr (by have := k2.size; omega)
  · rintro l w2 ⟨rfl, M2, lobs2, hx2, k2, ho2, li2⟩ B
    rw [s235_p8_Fe]
    unfold s235_p7
    try simp only [e_fd, e_nck, e_pkt, e_pkf, e_gdtt, e_gdtf, e_gdft, e_gdff, e_ift, e_iff, e_not, e_ln, e_lnT, e_cp, e_cvi, e_ex20, e_ex21, e_ex30, e_ex31, e_ex32, e_add, e_sub, e_mul, e_quo, e_rem, e_and, e_or, e_xor, e_shl, e_shr, e_eql, e_neq, e_lss, e_leq, e_gtr, e_geq, e_beq, e_bne, e_peq1, e_peq2, e_pne1, e_pne2, e_zeq1, e_zeq2, e_zne1, e_zne2, e_feq1, e_fne1, e_feq2, e_fne2, e_seq, e_sne, e_ta1, e_ta2, Nat.zero_add, Nat.add_zero, Bool.not_true, Bool.not_false]
    rw [dnlt]
    try simp only [e_fd, e_nck, e_pkt, e_pkf, e_gdtt, e_gdtf, e_gdft, e_gdff, e_ift, e_iff, e_not, e_ln, e_lnT, e_cp, e_cvi, e_ex20, e_ex21, e_ex30, e_ex31, e_ex32, e_add, e_sub, e_mul, e_quo, e_rem, e_and, e_or, e_xor, e_shl, e_shr, e_eql, e_neq, e_lss, e_leq, e_gtr, e_geq, e_beq, e_bne, e_peq1, e_peq2, e_pne1, e_pne2, e_zeq1, e_zeq2, e_zne1, e_zne2, e_feq1, e_fne1, e_feq2, e_fne2, e_seq, e_sne, e_ta1, e_ta2, Nat.zero_add, Nat.add_zero, Bool.not_true, Bool.not_false]
    rw [List.take_length, List.drop_length, List.append_nil] at li2
    exact hK w2 M2 lobs2 hx2 k2 ho2 li2
end
end Go.Proofs.Qxb6500896aGreat
