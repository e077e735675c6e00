import Derived.Test.Qxb6500896aGreatDoorK50
namespace Go.Proofs.Qxb6500896aGreatDoor
open Go.Sh Go.RowKit
set_option linter.unusedVariables false
set_option linter.unusedSimpArgs false

/-- the engine in the state of a snapshot -/
def Sg.im (σ : Sg) (im : Img) : Sg := { σ with seq := im.seq, now := im.now, rs := im.rs, ls := im.ls }
theorem lens_le : ∀ {ls : List (List Int)} {l : List Int}, l ∈ ls → l.length ≤ lens ls
  | a :: ls, l, h => by
    have e : lens (a :: ls) = a.length + lens ls := by simp [lens]
    rcases List.mem_cons.1 h with q | q
    · rw [e, q]; omega
    · have := lens_le q; omega
theorem rRecsN_n : ∀ (n : Nat) (s : RS), (rRecsN n s).1.length = n
  | 0, s => rfl
  | n + 1, s => by
    show ((rRec s).1 :: (rRecsN n (rRec s).2).1).length = _
    rw [List.length_cons, rRecsN_n n]
theorem rRecs_n (s : RS) : (rRecs s).1.length ≤ s.1.length := by
  unfold rRecs
  split
  · simp
  · rw [rRecsN_n]
    unfold rCount
    have := rUp_v (s.1.length / 7) s
    have := Nat.div_le_self s.1.length 7
    omega
section
variable {F M M' S : Nat → Prop} {w w' w0 w1 : World} {v rv lv : Value} {l : List Value} {n wb e t : Nat} {rob : Option Nat} {lobs : List (Option Nat)} {C : Cfg} {ls : List (List Int)} {rs : List Rec} {K : Value → World → Prop} {im : Img} {m : Me} {σ : Sg} {J : Jr}
/-- a snapshot read anew stays where others are written -/
theorem ImF.kp (h : ImF w0 w rv lv im) (hk : Kp S w w') (hS : ∀ b, S b → w.heap.size ≤ b) : ImF w0 w' rv lv im := by
  obtain ⟨N, rob, its, wb, lms, e1, e2, e3, e4, e5, e6, e7, e8, e9, e10⟩ := h.ex
  have hlt := e8.lt
  refine ⟨N, rob, its, wb, lms, e1, e2.kp hk fun b e q => ?_, e3, fun p hp => (e4 p hp).kp hk fun b hb q => ?_, e5, e6, e7, hk.row e8 fun q => ?_, fun p hp => ⟨(e9 p hp).1.kp hk fun b e q => ?_, (e9 p hp).2⟩, e10⟩
  · have := hS b q; obtain ⟨l2, hl2⟩ := e2.row e; have := hl2.lt; omega
  · have := hS b q; have := hb.1.2; have := e6.2; omega
  · have := hS wb q; omega
  · have := hS b q; obtain ⟨l2, hl2⟩ := (e9 p hp).1.row e; have := hl2.lt; omega
theorem ImF.ro (h : ImF w0 w rv lv im) (hl : im.rs.length ≤ 1000000000) : Ro (fun b => b < w.heap.size) w rv im.rs := by
  obtain ⟨N, rob, its, wb, lms, e1, e2, e3, e4, e5, e6, e7, e8, e9, e10⟩ := h.ex
  have hil : its.length = im.rs.length := by rw [← e1, List.length_map]
  have hlt := e8.lt
  refine ⟨its, e1, e2.ar rC_len (by omega) fun b e => ?_, fun p hp => (e4 p hp).mono fun b hb => by have := hb.1.2; have := e6.2; omega⟩
  obtain ⟨l2, hl2⟩ := e2.row e
  exact hl2.lt
theorem ImF.rws (h : ImF w0 w rv lv im) (hl : im.ls.length ≤ 1000000000) (hll : ∀ l ∈ im.ls, l.length ≤ 1099511627776) : Rws (fun b => b < w.heap.size) w lv im.ls := by
  obtain ⟨N, rob, its, wb, lms, e1, e2, e3, e4, e5, e6, e7, e8, e9, e10⟩ := h.ex
  have hil : lms.length = im.ls.length := by rw [← e7, List.length_map]
  refine ⟨lms.map Lm.val, ?_, by rw [List.length_map, hil], fun i h1 h2 => ?_⟩
  · have := Ar.row (xs := lms.map Lm.val) (F := fun b => b < w.heap.size) (k := 1) one_len (by rw [rows_one]; exact e8) e8.lt (by rw [List.length_map]; omega)
    rw [List.length_map, hil] at this
    rw [e5]; exact this
  · have hi : i < lms.length := by omega
    have ei : lms[i].ids = im.ls[i] := by
      have : (lms.map Lm.ids)[i]? = im.ls[i]? := by rw [e7]
      rw [List.getElem?_map, List.getElem?_eq_getElem hi, List.getElem?_eq_getElem h2] at this
      exact Option.some.inj this
    have hs := (e9 _ (List.getElem_mem hi)).1
    rw [List.getElem_map]
    have := hll _ (List.getElem_mem h2)
    rw [ei] at hs
    refine hs.ar iC_len (by omega) fun b e => ?_
    obtain ⟨l2, hl2⟩ := hs.row e
    exact hl2.lt
theorem ImF.sc (h : ImF w0 w rv lv im) : scal rv = true ∧ scal lv = true := by
  obtain ⟨N, rob, its, wb, lms, e1, e2, e3, e4, e5, e6, e7, e8, e9, e10⟩ := h.ex
  exact ⟨sl_scal e2, by rw [e5]; rfl⟩
section
theorem decI_rl {s : RS} (hs : s.1.length ≤ 1000000) : (decI s).1.rs.length ≤ 1000000 ∧ (decI s).1.ls.length ≤ 1000000 := by
    have l1 := rNum_le s
    have l2 := rNum_le (rNum s).2
    have l3 := rNum_le (rNum (rNum s).2).2
    have l4 := rRecs_le (rNum (rNum (rNum s).2).2).2
    constructor
    · show (rRecs (rNum (rNum (rNum s).2).2).2).1.length ≤ _
      have := rRecs_n (rNum (rNum (rNum s).2).2).2
      omega
    · show (rLnsN (rCount 1 (rRecs (rNum (rNum (rNum s).2).2).2).2).1 (rCount 1 (rRecs (rNum (rNum (rNum s).2).2).2).2).2).1.length ≤ _
      rw [rLnsN_n]
      unfold rCount
      have := rUp_v ((rRecs (rNum (rNum (rNum s).2).2).2).2.1.length / 1) (rRecs (rNum (rNum (rNum s).2).2).2).2
      have := Nat.div_le_self (rRecs (rNum (rNum (rNum s).2).2).2).2.1.length 1
      omega
theorem decImg_rl {bs : List Int} (h : bs.length ≤ 1000000) (h2 : (decImg bs).2 = true) : (decImg bs).1.rs.length ≤ 1000000 ∧ (decImg bs).1.ls.length ≤ 1000000 := by
  have l0 := rOct_le (bs, false)
  have h3 : (rOct (bs, false)).2.1.length ≤ 1000000 := by simp only at l0; omega
  unfold decImg at h2 ⊢
  split
  · split
    · exact decI_rl h3
    · rename_i q1 q2; rw [if_pos q1, if_neg q2] at h2; cases h2
  · rename_i q1; rw [if_neg q1] at h2; cases h2
end
set_option maxHeartbeats 1000000 in
theorem restore_ok {bs : List Int} (h : En M w e m C σ J) (cv : CV C) (hv : Ar bC 1 F w v bs) (hF : ∀ b, F b → b < w.heap.size) (hB : By bs) (hl : bs.length ≤ 1000000)
    (hno : (decImg bs).2 = false ∨ chkImg C (decImg bs).1 = false → ∀ w', Kp Emp w w' → K (.bool false) w')
    (hyes : (decImg bs).2 = true → chkImg C (decImg bs).1 = true → ∀ w' M' m', Ext M M' w w' → Kp (fun b => b = e) w w' → m'.j = m.j → m'.lob = m.lob → (∀ b, OwnE e m' b → OwnE e m b ∨ w.heap.size ≤ b) → En M' w' e m' C (σ.im (decImg bs).1) J → K (.bool true) w') : cl Tryz.prog 54 #[P e 0, v] K w := by
  apply c54
  unfold s54_p7
  refine decImg_ok hv hB hF (by omega) (fun hd w1 hk1 => ?_) fun hd w1 rv lv hk1 hi1 => ?_
  · simp only [ex2_0, ex2_1]
    refine nw_r fun w2 r2 hk2 hz2 => ?_
    refine stn_r (cs := imC 0 0 0 nilS nilS) r2 rfl (show 0 + 5 ≤ 5 by decide) rfl fun w3 r3 hk3 hz3 => ?_
    unfold s54_p6 s54_p6_d
    have kd : Kp Emp w3 (drw w3) := kp_drw
    generalize drw w3 = w4 at kd ⊢
    simp only [Bool.not_false, e_fd, e_nck, e_pkt, e_pkf, e_gdtt, e_gdtf, e_gdft, e_gdff, e_ift, e_iff, e_not, e_ln, e_lnT, e_cp, e_cvi, e_ex20, e_ex21, e_ex30, e_ex31, e_ex32, e_add, e_sub, e_mul, e_quo, e_rem, e_and, e_or, e_xor, e_shl, e_shr, e_eql, e_neq, e_lss, e_leq, e_gtr, e_geq, e_beq, e_bne, e_peq1, e_peq2, e_pne1, e_pne2, e_zeq1, e_zeq2, e_zne1, e_zne2, e_feq1, e_fne1, e_feq2, e_fne2, e_seq, e_sne, e_ta1, e_ta2, Nat.zero_add, Nat.add_zero, Bool.not_true, Bool.not_false]
    unfold s54_p5
    try simp only [e_fd, e_nck, e_pkt, e_pkf, e_gdtt, e_gdtf, e_gdft, e_gdff, e_ift, e_iff, e_not, e_ln, e_lnT, e_cp, e_cvi, e_ex20, e_ex21, e_ex30, e_ex31, e_ex32, e_add, e_sub, e_mul, e_quo, e_rem, e_and, e_or, e_xor, e_shl, e_shr, e_eql, e_neq, e_lss, e_leq, e_gtr, e_geq, e_beq, e_bne, e_peq1, e_peq2, e_pne1, e_pne2, e_zeq1, e_zeq2, e_zne1, e_zne2, e_feq1, e_fne1, e_feq2, e_fne2, e_seq, e_sne, e_ta1, e_ta2, Nat.zero_add, Nat.add_zero, Bool.not_true, Bool.not_false]
    have s1 := hk1.size
    exact hno (.inl hd) w4 (((hk1.trans hk2).then hk3 fun k hk (q : k = _) => by omega).trans kd)
  · have hN := decImg_N hl hd
    have hrl := decImg_rl hl hd
    generalize hD : (decImg bs).1 = im at *
    obtain ⟨hN1, hN2⟩ := hN
    have hlen : ∀ l ∈ im.ls, l.length ≤ 1099511627776 := fun l q => by have := lens_le q; have := hN1.len; omega
    simp only [ex2_0, ex2_1]
    have s1 := hk1.size
    refine nw_r fun w2 r2 hk2 hz2 => ?_
    have hsc := hi1.sc
    refine stn_r (cs := imC im.rules im.seq im.now rv lv) r2 rfl (show 0 + 5 ≤ 5 by decide) (by simp only [imC, List.all_cons, List.all_nil, hsc.1, hsc.2]; rfl) fun w3 r3 hk3 hz3 => ?_
    replace r3 : Row w3 w1.heap.size 141 (imC im.rules im.seq im.now rv lv) := r3
    have k13 : Kp (fun b => b = w1.heap.size) w1 w3 := hk2.none.trans hk3
    have k3 : Kp Emp w w3 := hk1.then k13 fun k hk (q : k = _) => by omega
    have i3 := hi1.kp k13 fun b q => by omega
    unfold s54_p6 s54_p6_d
    have kd : Kp Emp w3 (drw w3) := kp_drw
    generalize drw w3 = w4 at kd ⊢
    have i4 := i3.kp kd fun b q => q.elim
    have k4 := k3.trans kd
    have r4 := kd.row' r3
    have h4 := h.kp' k4
    obtain ⟨va, vt, env, re, hcg, _⟩ := h4.ex
    have e14 : ((C.cells va vt ++ σ.cells m env).drop 0).take 14 = C.cells va vt := by rw [List.drop_zero]; rfl
    have l14 : 0 + 14 ≤ (C.cells va vt ++ σ.cells m env).length := by simp [Cfg.cells, Sg.cells]
    simp only [Bool.not_true, e_fd, e_nck, e_pkt, e_pkf, e_gdtt, e_gdtf, e_gdft, e_gdff, e_ift, e_iff, e_not, e_ln, e_lnT, e_cp, e_cvi, e_ex20, e_ex21, e_ex30, e_ex31, e_ex32, e_add, e_sub, e_mul, e_quo, e_rem, e_and, e_or, e_xor, e_shl, e_shr, e_eql, e_neq, e_lss, e_leq, e_gtr, e_geq, e_beq, e_bne, e_peq1, e_peq2, e_pne1, e_pne2, e_zeq1, e_zeq2, e_zne1, e_zne2, e_feq1, e_fne1, e_feq2, e_fne2, e_seq, e_sne, e_ta1, e_ta2, Nat.zero_add, Nat.add_zero, Bool.not_true, Bool.not_false]
    refine ldn_r re l14 ?_
    rw [e14]
    refine ldn_r r4 (show 0 + 5 ≤ 5 by decide) ?_
    refine checkImage_ok (im := im) (F := fun b => b < w4.heap.size) (hcg.mono fun b q => q.2) cv (i4.ro (by omega)) (i4.rws (by omega) hlen) hN1 fun w5 hk5 => ?_
    unfold s54_p5
    cases hch : chkImg C im with
    | false =>
      simp only [Bool.not_false, e_fd, e_nck, e_pkt, e_pkf, e_gdtt, e_gdtf, e_gdft, e_gdff, e_ift, e_iff, e_not, e_ln, e_lnT, e_cp, e_cvi, e_ex20, e_ex21, e_ex30, e_ex31, e_ex32, e_add, e_sub, e_mul, e_quo, e_rem, e_and, e_or, e_xor, e_shl, e_shr, e_eql, e_neq, e_lss, e_leq, e_gtr, e_geq, e_beq, e_bne, e_peq1, e_peq2, e_pne1, e_pne2, e_zeq1, e_zeq2, e_zne1, e_zne2, e_feq1, e_fne1, e_feq2, e_fne2, e_seq, e_sne, e_ta1, e_ta2, Nat.zero_add, Nat.add_zero, Bool.not_true, Bool.not_false]
      exact hno (.inr hch) w5 (k4.trans hk5)
    | true =>
      simp only [Bool.not_true, e_fd, e_nck, e_pkt, e_pkf, e_gdtt, e_gdtf, e_gdft, e_gdff, e_ift, e_iff, e_not, e_ln, e_lnT, e_cp, e_cvi, e_ex20, e_ex21, e_ex30, e_ex31, e_ex32, e_add, e_sub, e_mul, e_quo, e_rem, e_and, e_or, e_xor, e_shl, e_shr, e_eql, e_neq, e_lss, e_leq, e_gtr, e_geq, e_beq, e_bne, e_peq1, e_peq2, e_pne1, e_pne2, e_zeq1, e_zeq2, e_zne1, e_zne2, e_feq1, e_fne1, e_feq2, e_fne2, e_seq, e_sne, e_ta1, e_ta2, Nat.zero_add, Nat.add_zero, Bool.not_true, Bool.not_false]
      have hch0 := hch
      unfold chkImg at hch
      simp only [Bool.and_eq_true, decide_eq_true_eq] at hch
      obtain ⟨⟨⟨⟨_, _, c3⟩, _⟩, _⟩, c6, _⟩ := hch
      unfold chkLines at c6
      simp only [Bool.and_eq_true, decide_eq_true_eq] at c6
      obtain ⟨⟨c7, _⟩, c9⟩ := c6
      have mb := cv.mb.2
      have al := cv.al.2
      have hlen2 : ∀ l ∈ im.ls, l.length ≤ 16777216 := fun l q => by
        have := lens_le q
        have : waits im.rs ≤ im.rs.length := List.countP_le_length
        omega
      unfold s54_p4 s54_p4_d
      have kd5 : Kp Emp w5 (drw w5) := kp_drw
      generalize drw w5 = w6 at kd5 ⊢
      have k46 := hk5.trans kd5
      have i6 := i4.kp k46 fun b q => q.elim
      have r6 := k46.row' r4
      have k6 := k4.trans k46
      have s6 := k6.size
      have s16 : w1.heap.size < w6.heap.size := r6.lt
      -- the blocks that were read anew become the engine's own
      obtain ⟨N, rob, its, wb, lms, e1, e2, e3, e4, e5, e6, e7, e8, e9, e10⟩ := i6.ex
      have hwb := e8.lt
      have hx6 : Ext M (fun b => M b ∨ rob = some b ∨ (N ≤ b ∧ b < w6.heap.size)) w w6 := ⟨fun b q => .inl q, fun b q => by
        rcases q with q | q | q
        · exact .inl q
        · exact .inr (e3 b q).1
        · exact .inr (by omega), s6, fun b q => by
        rcases q with q | q | q
        · have := h.lt b q; omega
        · obtain ⟨l2, hl2⟩ := e2.row q; exact hl2.lt
        · exact q.2⟩
      have h6 := h.ext hx6 k6 (fun _ q => q.elim) (fun _ _ q => q)
      generalize hM2 : (fun b => M b ∨ rob = some b ∨ (N ≤ b ∧ b < w6.heap.size)) = M2 at hx6 h6
      have m_rob : ∀ b, rob = some b → M2 b := fun b q => by rw [← hM2]; exact .inr (.inl q)
      have m_N : ∀ b, N ≤ b → b < w6.heap.size → M2 b := fun b q1 q2 => by rw [← hM2]; exact .inr (.inr ⟨q1, q2⟩)
      have ne_e : e < w.heap.size := h.lt e h.me
      have rs6 : Rs M2 w6 rob rv im.rs := ⟨its, e1, e2, m_rob, fun p hp => (e4 p hp).mono fun b hb => ⟨fun q => by
        rw [← hM2] at q
        rcases q with q | q | q
        · have := h.lt b q; have := hb.1.1; omega
        · exact hb.2 q
        · have := hb.1.2; omega, by have := hb.1.2; omega⟩⟩
      try simp only [e_fd, e_nck, e_pkt, e_pkf, e_gdtt, e_gdtf, e_gdft, e_gdff, e_ift, e_iff, e_not, e_ln, e_lnT, e_cp, e_cvi, e_ex20, e_ex21, e_ex30, e_ex31, e_ex32, e_add, e_sub, e_mul, e_quo, e_rem, e_and, e_or, e_xor, e_shl, e_shr, e_eql, e_neq, e_lss, e_leq, e_gtr, e_geq, e_beq, e_bne, e_peq1, e_peq2, e_pne1, e_pne2, e_zeq1, e_zeq2, e_zne1, e_zne2, e_feq1, e_fne1, e_feq2, e_fne2, e_seq, e_sne, e_ta1, e_ta2, Nat.zero_add, Nat.add_zero, Bool.not_true, Bool.not_false]
      have st : ∀ (w9 : World), En M2 w9 e m C { σ with seq := im.seq, now := im.now } J → Kp (fun b => b = e) w6 w9 → w9.heap.size = w6.heap.size → s54_p3 K (P e 0) (P w1.heap.size 0) w9 := by
        intro w9 h9 hk9 hz9
        unfold s54_p3 s54_p3_d
        have kd9 : Kp Emp w9 (drw w9) := kp_drw
        have szd9 : (drw w9).heap.size = w9.heap.size := rfl
        generalize drw w9 = w10 at kd9 szd9 ⊢
        have h10 := h9.kp' kd9
        have r10 := kd9.row' (hk9.row r6 (show ¬ w1.heap.size = e by omega))
        obtain ⟨va, vt, env, re, hcg, _⟩ := h10.ex
        have e14 : ((C.cells va vt ++ ({ σ with seq := im.seq, now := im.now } : Sg).cells m env).drop 0).take 14 = C.cells va vt := by rw [List.drop_zero]; rfl
        have l14 : 0 + 14 ≤ (C.cells va vt ++ ({ σ with seq := im.seq, now := im.now } : Sg).cells m env).length := by simp [Cfg.cells, Sg.cells]
        try simp only [e_fd, e_nck, e_pkt, e_pkf, e_gdtt, e_gdtf, e_gdft, e_gdff, e_ift, e_iff, e_not, e_ln, e_lnT, e_cp, e_cvi, e_ex20, e_ex21, e_ex30, e_ex31, e_ex32, e_add, e_sub, e_mul, e_quo, e_rem, e_and, e_or, e_xor, e_shl, e_shr, e_eql, e_neq, e_lss, e_leq, e_gtr, e_geq, e_beq, e_bne, e_peq1, e_peq2, e_pne1, e_pne2, e_zeq1, e_zeq2, e_zne1, e_zne2, e_feq1, e_fne1, e_feq2, e_fne2, e_seq, e_sne, e_ta1, e_ta2, Nat.zero_add, Nat.add_zero, Bool.not_true, Bool.not_false]
        refine ldn_r re l14 ?_
        rw [e14]
        try simp only [e_fd, e_nck, e_pkt, e_pkf, e_gdtt, e_gdtf, e_gdft, e_gdff, e_ift, e_iff, e_not, e_ln, e_lnT, e_cp, e_cvi, e_ex20, e_ex21, e_ex30, e_ex31, e_ex32, e_add, e_sub, e_mul, e_quo, e_rem, e_and, e_or, e_xor, e_shl, e_shr, e_eql, e_neq, e_lss, e_leq, e_gtr, e_geq, e_beq, e_bne, e_peq1, e_peq2, e_pne1, e_pne2, e_zeq1, e_zeq2, e_zne1, e_zne2, e_feq1, e_fne1, e_feq2, e_fne2, e_seq, e_sne, e_ta1, e_ta2, Nat.zero_add, Nat.add_zero, Bool.not_true, Bool.not_false]
        refine ld1_r (v := rv) r10 rfl ?_
        try simp only [e_fd, e_nck, e_pkt, e_pkf, e_gdtt, e_gdtf, e_gdft, e_gdff, e_ift, e_iff, e_not, e_ln, e_lnT, e_cp, e_cvi, e_ex20, e_ex21, e_ex30, e_ex31, e_ex32, e_add, e_sub, e_mul, e_quo, e_rem, e_and, e_or, e_xor, e_shl, e_shr, e_eql, e_neq, e_lss, e_leq, e_gtr, e_geq, e_beq, e_bne, e_peq1, e_peq2, e_pne1, e_pne2, e_zeq1, e_zeq2, e_zne1, e_zne2, e_feq1, e_fne1, e_feq2, e_fne2, e_seq, e_sne, e_ta1, e_ta2, Nat.zero_add, Nat.add_zero, Bool.not_true, Bool.not_false]
        have k610 : Kp (fun b => b = e) w6 w10 := hk9.trans kd9.none
        have e_no : ∀ b, b = e → b < w6.heap.size → M2 b := fun b q _ => q ▸ h6.me
        have hx610 := Ext.same h6.lt k610
        have rs10 : Rs M2 w10 rob rv im.rs := rs6.ext hx610 k610 e_no fun b q q2 => by have := (e3 b q).1; omega
        refine loadT_ok hcg h10.lt rs10 (by omega) hsc.1 fun w11 M11 t hx11 hk11 ht11 tb11 => ?_
        have h11 := h10.ext hx11 hk11 (fun _ q => q.elim) (fun _ _ q => q)
        refine h11.stT tb11 fun w12 h12 hk12 hz12 => ?_
        unfold s54_p2 s54_p2_d
        have kd12 : Kp Emp w12 (drw w12) := kp_drw
        have szd12 : (drw w12).heap.size = w12.heap.size := rfl
        generalize drw w12 = w13 at kd12 szd12 ⊢
        have h13 := h12.kp' kd12
        have s11 := hk11.size
        have k613 : Kp (fun b => b = e) w6 w13 := ((k610.trans hk11.none).trans hk12).trans kd12.none
        have r13 := k613.row r6 (show ¬ w1.heap.size = e by omega)
        obtain ⟨va2, vt2, env2, re2, hcg2, _⟩ := h13.ex
        have f14 : ((C.cells va2 vt2 ++ ({ σ with seq := im.seq, now := im.now, rs := im.rs } : Sg).cells { m with t := t, rob := rob } env2).drop 0).take 14 = C.cells va2 vt2 := by rw [List.drop_zero]; rfl
        have g14 : 0 + 14 ≤ (C.cells va2 vt2 ++ ({ σ with seq := im.seq, now := im.now, rs := im.rs } : Sg).cells { m with t := t, rob := rob } env2).length := by simp [Cfg.cells, Sg.cells]
        try simp only [e_fd, e_nck, e_pkt, e_pkf, e_gdtt, e_gdtf, e_gdft, e_gdff, e_ift, e_iff, e_not, e_ln, e_lnT, e_cp, e_cvi, e_ex20, e_ex21, e_ex30, e_ex31, e_ex32, e_add, e_sub, e_mul, e_quo, e_rem, e_and, e_or, e_xor, e_shl, e_shr, e_eql, e_neq, e_lss, e_leq, e_gtr, e_geq, e_beq, e_bne, e_peq1, e_peq2, e_pne1, e_pne2, e_zeq1, e_zeq2, e_zne1, e_zne2, e_feq1, e_fne1, e_feq2, e_fne2, e_seq, e_sne, e_ta1, e_ta2, Nat.zero_add, Nat.add_zero, Bool.not_true, Bool.not_false]
        refine ldn_r re2 g14 ?_
        rw [f14]
        try simp only [e_fd, e_nck, e_pkt, e_pkf, e_gdtt, e_gdtf, e_gdft, e_gdff, e_ift, e_iff, e_not, e_ln, e_lnT, e_cp, e_cvi, e_ex20, e_ex21, e_ex30, e_ex31, e_ex32, e_add, e_sub, e_mul, e_quo, e_rem, e_and, e_or, e_xor, e_shl, e_shr, e_eql, e_neq, e_lss, e_leq, e_gtr, e_geq, e_beq, e_bne, e_peq1, e_peq2, e_pne1, e_pne2, e_zeq1, e_zeq2, e_zne1, e_zne2, e_feq1, e_fne1, e_feq2, e_fne2, e_seq, e_sne, e_ta1, e_ta2, Nat.zero_add, Nat.add_zero, Bool.not_true, Bool.not_false]
        refine ld1_r (v := lv) r13 rfl ?_
        try simp only [e_fd, e_nck, e_pkt, e_pkf, e_gdtt, e_gdtf, e_gdft, e_gdff, e_ift, e_iff, e_not, e_ln, e_lnT, e_cp, e_cvi, e_ex20, e_ex21, e_ex30, e_ex31, e_ex32, e_add, e_sub, e_mul, e_quo, e_rem, e_and, e_or, e_xor, e_shl, e_shr, e_eql, e_neq, e_lss, e_leq, e_gtr, e_geq, e_beq, e_bne, e_peq1, e_peq2, e_pne1, e_pne2, e_zeq1, e_zeq2, e_zne1, e_zne2, e_feq1, e_fne1, e_feq2, e_fne2, e_seq, e_sne, e_ta1, e_ta2, Nat.zero_add, Nat.add_zero, Bool.not_true, Bool.not_false]
        rw [e5]
        have sub11 : ∀ b, M2 b → M11 b := hx11.sub
        refine loadL_ok hcg2 h13.lt (sub11 _ (m_N wb (by omega) hwb)) e7 (k613.row e8 (by omega)) (fun p hp => ⟨(e9 p hp).1.kp k613 fun b q q2 => by have := (e9 p hp).2 b q; omega, fun b q => sub11 _ (m_N b ((e9 p hp).2 b q) (by obtain ⟨l2, hl2⟩ := (e9 p hp).1.row q; exact hl2.lt))⟩) e10 (by omega) hlen2 fun w14 M14 n hx14 hk14 hn14 li14 => ?_
        have h14 := h13.ext hx14 hk14 (fun _ q => q.elim) (fun _ _ q => q)
        refine h14.stL li14 fun w15 h15 hk15 hz15 => ?_
        unfold s54_p1
        have s13 : w6.heap.size ≤ w13.heap.size := k613.size
        have s10 : w6.heap.size ≤ w10.heap.size := k610.size
        have kall : Kp (fun b => b = e) w w15 := ((k6.none.trans k613).trans hk14.none).trans hk15
        have hxx : Ext M M14 w w15 := ((((hx6.trans hx610).trans hx11).trans (Ext.same tb11.lt (hk12.trans kd12.none))).trans hx14).trans (Ext.same li14.lt hk15)
        have h15' : En M14 w15 e ⟨t, rob, n, wb, lms.map Lm.blk, m.j, m.lob, m.en⟩ C (σ.im im) J := h15
        refine hyes hd hch0 w15 M14 ⟨t, rob, n, wb, lms.map Lm.blk, m.j, m.lob, m.en⟩ hxx kall rfl rfl (fun b q => ?_) h15'
        rcases q with q | q | q | q | q
        · exact .inl (.inl q)
        · rcases q with q | q
          · exact .inr (by have : b = t := q; omega)
          · exact .inr (e3 b q).1
        · rcases q with q | q | q
          · exact .inr (by have : b = n := q; omega)
          · exact .inr (by have : b = wb := q; omega)
          · obtain ⟨p, hp, hb⟩ := List.mem_map.1 q
            exact .inr (by have := (e9 p hp).2 b hb; omega)
        · exact .inl (.inr (.inr (.inr (.inl q))))
        · exact .inl (.inr (.inr (.inr (.inr q))))
      have r6e : ∀ {w' : World}, Kp (fun b => b = e) w6 w' → Row w' w1.heap.size 141 (imC im.rules im.seq im.now rv lv) := fun hk => hk.row r6 (by omega)
      refine ⟨?_, ?_⟩
      · refine ld1_r r6 rfl ?_
        refine ⟨?_, ?_⟩
        · refine ld1_r r6 rfl ?_
          refine h6.st { σ with seq := im.seq } (by decide) rfl (fun va vt env => rfl) rfl ⟨rfl, rfl⟩ h.rf fun w7 h7 hk7 hz7 => ?_
          refine h7.st { σ with seq := im.seq, now := im.now } (by decide) rfl (fun va vt env => rfl) rfl ⟨rfl, rfl⟩ h.rf fun w8 h8 hk8 hz8 => ?_
          exact st w8 h8 (hk7.trans hk8) (by omega)
        · refine h6.st { σ with seq := im.seq } (by decide) rfl (fun va vt env => rfl) rfl ⟨rfl, rfl⟩ h.rf fun w7 h7 hk7 hz7 => ?_
          refine ld1_r (r6e hk7) rfl ?_
          refine h7.st { σ with seq := im.seq, now := im.now } (by decide) rfl (fun va vt env => rfl) rfl ⟨rfl, rfl⟩ h.rf fun w8 h8 hk8 hz8 => ?_
          exact st w8 h8 (hk7.trans hk8) (by omega)
      · refine ld1_r r6 rfl ?_
        refine ld1_r r6 rfl ?_
        refine h6.st { σ with seq := im.seq } (by decide) rfl (fun va vt env => rfl) rfl ⟨rfl, rfl⟩ h.rf fun w7 h7 hk7 hz7 => ?_
        refine h7.st { σ with seq := im.seq, now := im.now } (by decide) rfl (fun va vt env => rfl) rfl ⟨rfl, rfl⟩ h.rf fun w8 h8 hk8 hz8 => ?_
        exact st w8 h8 (hk7.trans hk8) (by omega)
end
end Go.Proofs.Qxb6500896aGreatDoor
