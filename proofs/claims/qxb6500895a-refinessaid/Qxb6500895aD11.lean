import Derived.Test.Qxb6500895aD10
namespace Go.Proofs.Qxb6500895a
open Go.Sh Go.RowKit
set_option linter.unusedVariables false
set_option linter.unusedSimpArgs false

abbrev P (b o : Nat) : Value := .pointer (some ⟨b, o, none⟩)
abbrev nilS : Value := .slice none 0 0
theorem pos_fst {ls ls' : List (Nat × Nat)} (h : ls'.map (·.1) = ls.map (·.1)) (k : Nat) : pos ls' k = pos ls k := by
  have e : ∀ l : List (Nat × Nat), l.findIdx? (fun p => p.1 == k) = (l.map (·.1)).findIdx? (fun a => a == k) := fun l => by rw [List.findIdx?_map]; rfl
  unfold pos
  rw [e, e, h]
theorem idxs_fst {ls ls' : List (Nat × Nat)} (h : ls'.map (·.1) = ls.map (·.1)) : idxs ls' = idxs ls := by
  unfold idxs
  congr 1
  funext k
  rw [pos_fst h]
theorem idxs_int (ls : List (Nat × Nat)) : idxs ls = ((List.range 12).map (fun k => ((pos ls k : Nat) : Int))).map (fun n => Value.int .i32 n) := by
  unfold idxs; rw [List.map_map]; rfl

/-- the lines of a clone -/
structure Cln (w0 w : World) (s : DS) (ls ls' : List (Nat × Nat)) : Prop where
  fst : ls'.map (·.1) = ls.map (·.1)
  buf : ∀ p ∈ ls', ∃ x, s.fr p.1 = some x ∧ Row w p.2 5 (x.map U8) ∧ w0.heap.size ≤ p.2
  nd : (ls'.map (·.2)).Nodup
theorem Cln.kp {w0 w w' : World} {s : DS} {ls ls' : List (Nat × Nat)} {T : Nat → Prop} (h : Cln w0 w s ls ls') (hk : Kp T w w') (hT : ∀ b l, Row w b 5 l → w0.heap.size ≤ b → ¬ T b) : Cln w0 w' s ls ls' :=
  ⟨h.fst, fun p hp => by obtain ⟨x, h1, h2, h3⟩ := h.buf p hp; exact ⟨x, h1, hk.row h2 (hT _ _ h2 h3), h3⟩, h.nd⟩

section
variable {w : World} {d : Nat} {m : Mem} {s : DS} {K : Value → World → Prop}

theorem cclone_loop {w1 : World} {t2 t3 ib lb : Nat} {lv : Value} (h : Dk w d m s) (hk1 : Kp (fun _ => False) w w1) (ht2 : w.heap.size ≤ t2) (ht3 : w.heap.size ≤ t3) (hib : w.heap.size ≤ ib) (hlb : w.heap.size ≤ lb) (hne : t2 ≠ t3)
    (r2 : Row w1 t2 87 [I 0, nilS, nilS, nilS]) (r3 : Row w1 t3 87 [I 16, .slice (some ⟨ib, 0, none⟩) 12 12, lv, nilS]) (ri : Row w1 ib 21 (idxs m.ls)) (hlv : (m.ls.length = 0 ∧ lv = nilS) ∨ (0 < m.ls.length ∧ lv = .slice (some ⟨lb, 0, none⟩) m.ls.length m.ls.length))
    (rl : 0 < m.ls.length → ∃ rest : List Value, rest.length = m.ls.length * 2 ∧ Row w1 lb 100 rest)
    (hK : ∀ w' lv' lob' ls', Kp (fun _ => False) w w' → Row w' ib 21 (idxs ls') → Sl lnV 2 w' 100 lob' lv' ls' → (∀ b, lob' = some b → w.heap.size ≤ b) → Cln w w' s m.ls ls' → K (.agg #[I 16, .slice (some ⟨ib, 0, none⟩) 12 12, lv', nilS]) w') :
    s52_p7 K (P d 3) (P t2 0) (P t3 0) w1 := by
  have hll := h.lsl
  unfold s52_p7
  simp only [e_fd, e_nck, e_pkt, e_pkf, e_gdtt, e_gdtf, e_gdft, e_gdff, e_ift, e_iff, e_not, e_ln, e_lnT, e_cp, e_cvi, e_ex20, e_ex21, e_ex30, e_ex31, e_ex32, e_add, e_sub, e_mul, e_quo, e_rem, e_and, e_or, e_xor, e_shl, e_shr, e_eql, e_neq, e_lss, e_leq, e_gtr, e_geq, e_beq, e_bne, e_peq1, e_peq2, e_pne1, e_pne2, e_zeq1, e_zeq2, e_zne1, e_zne2, e_feq1, e_fne1, e_feq2, e_fne2, e_seq, e_sne, e_ta1, e_ta2, Nat.zero_add, Nat.add_zero, Bool.not_true, Bool.not_false]
  refine ld1_r (h.kp' hk1).disk rfl ?_
  refine (h.kp' hk1).lines.ln ?_
  refine ⟨fun n l w' => ∃ (i : Nat) (done : List (Nat × Nat)) (rest : List Value), i ≤ m.ls.length ∧ n = m.ls.length - i ∧ l = [P d 3, P t2 0, P t3 0, I m.ls.length, I i] ∧ Kp (fun _ => False) w w' ∧ Row w' t2 87 [I 0, nilS, nilS, nilS] ∧ Row w' t3 87 [I 16, .slice (some ⟨ib, 0, none⟩) 12 12, lv, nilS] ∧ Row w' ib 21 (idxs m.ls) ∧
      done.length = i ∧ rest.length = (m.ls.length - i) * 2 ∧ (0 < m.ls.length → Row w' lb 100 (rows lnV done ++ rest)) ∧ Cln w w' s (m.ls.take i) done,
    m.ls.length, ?_, ?_⟩
  · by_cases h0 : 0 < m.ls.length
    · obtain ⟨rest, e1, e2⟩ := rl h0
      exact ⟨0, [], rest, by omega, by omega, rfl, hk1, r2, r3, ri, rfl, by simpa using e1, fun _ => by simpa [rows] using e2, ⟨by simp, by simp, by simp⟩⟩
    · exact ⟨0, [], List.replicate ((m.ls.length - 0) * 2) nilS, by omega, by omega, rfl, hk1, r2, r3, ri, rfl, by simp, fun q => absurd q h0, ⟨by simp, by simp, by simp⟩⟩
  · rintro n l w' ⟨i, done, rest, hi, rfl, rfl, hk, r2, r3, ri, hdl, hrl, rl, hc⟩
    rw [s52_p6_Fe]
    unfold s52_p5
    simp only [e_fd, e_nck, e_pkt, e_pkf, e_gdtt, e_gdtf, e_gdft, e_gdff, e_ift, e_iff, e_not, e_ln, e_lnT, e_cp, e_cvi, e_ex20, e_ex21, e_ex30, e_ex31, e_ex32, e_add, e_sub, e_mul, e_quo, e_rem, e_and, e_or, e_xor, e_shl, e_shr, e_eql, e_neq, e_lss, e_leq, e_gtr, e_geq, e_beq, e_bne, e_peq1, e_peq2, e_pne1, e_pne2, e_zeq1, e_zeq2, e_zne1, e_zne2, e_feq1, e_fne1, e_feq2, e_fne2, e_seq, e_sne, e_ta1, e_ta2, Nat.zero_add, Nat.add_zero, Bool.not_true, Bool.not_false]
    have h' := h.kp' hk
    by_cases hlt : i < m.ls.length
    · have hlt' : (i : Int) < ((m.ls.length : Nat) : Int) := by omega
      simp only [hlt', decide_true, e_fd, e_nck, e_pkt, e_pkf, e_gdtt, e_gdtf, e_gdft, e_gdff, e_ift, e_iff, e_not, e_ln, e_lnT, e_cp, e_cvi, e_ex20, e_ex21, e_ex30, e_ex31, e_ex32, e_add, e_sub, e_mul, e_quo, e_rem, e_and, e_or, e_xor, e_shl, e_shr, e_eql, e_neq, e_lss, e_leq, e_gtr, e_geq, e_beq, e_bne, e_peq1, e_peq2, e_pne1, e_pne2, e_zeq1, e_zeq2, e_zne1, e_zne2, e_feq1, e_fne1, e_feq2, e_fne2, e_seq, e_sne, e_ta1, e_ta2, Nat.zero_add, Nat.add_zero, Bool.not_true, Bool.not_false]
      unfold s52_p4
      simp only [e_fd, e_nck, e_pkt, e_pkf, e_gdtt, e_gdtf, e_gdft, e_gdff, e_ift, e_iff, e_not, e_ln, e_lnT, e_cp, e_cvi, e_ex20, e_ex21, e_ex30, e_ex31, e_ex32, e_add, e_sub, e_mul, e_quo, e_rem, e_and, e_or, e_xor, e_shl, e_shr, e_eql, e_neq, e_lss, e_leq, e_gtr, e_geq, e_beq, e_bne, e_peq1, e_peq2, e_pne1, e_pne2, e_zeq1, e_zeq2, e_zne1, e_zne2, e_feq1, e_fne1, e_feq2, e_fne2, e_seq, e_sne, e_ta1, e_ta2, Nat.zero_add, Nat.add_zero, Bool.not_true, Bool.not_false]
      refine ld1_r h'.disk rfl ?_
      refine mks_r (n := 16) (by decide) (by decide) fun w2 rn hk2 hz2 => ?_
      have h2 := h'.kp' hk2
      refine ld1_r h2.disk rfl ?_
      refine h2.lines.ix lnV_len hlt fun lb0 l0 _ hr0 hj0 hl0 _ => ?_
      simp only [e_fd, e_nck, e_pkt, e_pkf, e_gdtt, e_gdtf, e_gdft, e_gdff, e_ift, e_iff, e_not, e_ln, e_lnT, e_cp, e_cvi, e_ex20, e_ex21, e_ex30, e_ex31, e_ex32, e_add, e_sub, e_mul, e_quo, e_rem, e_and, e_or, e_xor, e_shl, e_shr, e_eql, e_neq, e_lss, e_leq, e_gtr, e_geq, e_beq, e_bne, e_peq1, e_peq2, e_pne1, e_pne2, e_zeq1, e_zeq2, e_zne1, e_zne2, e_feq1, e_fne1, e_feq2, e_fne2, e_seq, e_sne, e_ta1, e_ta2, Nat.zero_add, Nat.add_zero, Bool.not_true, Bool.not_false]
      refine ld1_r hr0 (by rw [hj0 1 (by decide)]; rfl) ?_
      obtain ⟨hp12, x, hx, hrx⟩ := h2.lin _ (List.getElem_mem hlt)
      have hxl := (h.rsec _ _ hx).1
      have hvx : Vs U8 w2 (buf m.ls[i].2) x := by
        have : Vs U8 w2 (.slice (some ⟨m.ls[i].2, 0, none⟩) x.length 16) x := vs_row (junk := []) (by rw [List.append_nil]; exact hrx) (by omega) (by omega)
        rw [hxl] at this; exact this
      refine cp_r (o := 0) (n := 16) rn hvx hxl (by simp) (fun _ => rfl) fun w3 r3n hk3 hz3 => ?_
      rw [List.take_zero, List.nil_append, Nat.zero_add, List.drop_of_length_le (by simp), List.append_nil] at r3n
      have hsz := hk.size
      have hkn : Kp (fun b => b = w'.heap.size) w' (drw w3) := (hk2.none.trans hk3).trans kp_drw
      have hkw : Kp (fun _ => False) w (drw w3) := hk.then hkn (fun k hk (q : k = _) => by omega)
      have keep : ∀ {b t l}, Row w' b t l → Row (drw w3) b t l := fun hr => hkn.row hr (fun (q : _ = _) => by have := hr.lt; omega)
      unfold s52_p3 s52_p3_d
      simp only [e_fd, e_nck, e_pkt, e_pkf, e_gdtt, e_gdtf, e_gdft, e_gdff, e_ift, e_iff, e_not, e_ln, e_lnT, e_cp, e_cvi, e_ex20, e_ex21, e_ex30, e_ex31, e_ex32, e_add, e_sub, e_mul, e_quo, e_rem, e_and, e_or, e_xor, e_shl, e_shr, e_eql, e_neq, e_lss, e_leq, e_gtr, e_geq, e_beq, e_bne, e_peq1, e_peq2, e_pne1, e_pne2, e_zeq1, e_zeq2, e_zne1, e_zne2, e_feq1, e_fne1, e_feq2, e_fne2, e_seq, e_sne, e_ta1, e_ta2, Nat.zero_add, Nat.add_zero, Bool.not_true, Bool.not_false]
      have h3 := h.kp' hkw
      refine ld1_r (keep r3) rfl ?_
      refine ld1_r h3.disk rfl ?_
      refine h3.lines.ix lnV_len hlt fun lb1 l1 _ hr1 hj1 hl1 _ => ?_
      simp only [e_fd, e_nck, e_pkt, e_pkf, e_gdtt, e_gdtf, e_gdft, e_gdff, e_ift, e_iff, e_not, e_ln, e_lnT, e_cp, e_cvi, e_ex20, e_ex21, e_ex30, e_ex31, e_ex32, e_add, e_sub, e_mul, e_quo, e_rem, e_and, e_or, e_xor, e_shl, e_shr, e_eql, e_neq, e_lss, e_leq, e_gtr, e_geq, e_beq, e_bne, e_peq1, e_peq2, e_pne1, e_pne2, e_zeq1, e_zeq2, e_zne1, e_zne2, e_feq1, e_fne1, e_feq2, e_fne2, e_seq, e_sne, e_ta1, e_ta2, Nat.zero_add, Nat.add_zero, Bool.not_true, Bool.not_false]
      refine ld1_r hr1 (v := I m.ls[i].1) (by have := hj1 0 (by decide); rw [Nat.add_zero] at this; rw [this]; rfl) ?_
      refine bdq_r (l := lnV (m.ls[i].1, w'.heap.size)) rfl ?_
      obtain ⟨_, elv⟩ := hlv.resolve_left (fun q => by omega)
      rw [elv]
      refine ⟨⟨by omega, by omega⟩, ?_⟩
      have ei : ((i : Int)).toNat = i := by omega
      rw [ei, add_mk, Nat.zero_add]
      have rl' := keep (rl (by omega))
      have hrd : (rows lnV done).length = i * 2 := by rw [rows_length lnV_len, hdl]
      refine stn_r rl' rfl (by rw [List.length_append, hrd, hrl]; omega) rfl fun w4 r4 hk4 hz4 => ?_
      have e4 : (rows lnV done ++ rest).take (i * 2) ++ (lnV (m.ls[i].1, w'.heap.size) ++ (rows lnV done ++ rest).drop (i * 2 + 2)) = rows lnV (done ++ [(m.ls[i].1, w'.heap.size)]) ++ rest.drop 2 := by
        have ed : (rows lnV done ++ rest).drop (i * 2 + 2) = rest.drop 2 := by
          rw [List.drop_append, List.drop_of_length_le (by omega), List.nil_append, hrd, show i * 2 + 2 - i * 2 = 2 by omega]
        rw [List.take_left' hrd, ed, rows_one, List.append_assoc]
      rw [e4] at r4
      unfold s52_p2
      simp only [e_fd, e_nck, e_pkt, e_pkf, e_gdtt, e_gdtf, e_gdft, e_gdff, e_ift, e_iff, e_not, e_ln, e_lnT, e_cp, e_cvi, e_ex20, e_ex21, e_ex30, e_ex31, e_ex32, e_add, e_sub, e_mul, e_quo, e_rem, e_and, e_or, e_xor, e_shl, e_shr, e_eql, e_neq, e_lss, e_leq, e_gtr, e_geq, e_beq, e_bne, e_peq1, e_peq2, e_pne1, e_pne2, e_zeq1, e_zeq2, e_zne1, e_zne2, e_feq1, e_fne1, e_feq2, e_fne2, e_seq, e_sne, e_ta1, e_ta2, Nat.zero_add, Nat.add_zero, Bool.not_true, Bool.not_false]
      rw [wrap64_id (by omega) (by omega)]
      have keep4 : ∀ {b t l}, Row (drw w3) b t l → t ≠ 100 → Row w4 b t l := fun hr ht => hk4.row hr (fun (q : _ = _) => row_ne hr rl' ht q)
      refine ⟨m.ls.length - (i + 1), by omega, i + 1, done ++ [(m.ls[i].1, w'.heap.size)], rest.drop 2, by omega, rfl, by simp, hkw.then hk4 (fun k hk (q : k = _) => by omega), keep4 (keep r2) (by decide), (by rw [elv] at r3; exact keep4 (keep r3) (by decide)), keep4 (keep ri) (by decide), by simp [hdl], by rw [List.length_drop, hrl]; omega, fun _ => r4, ?_, ?_, ?_⟩
      · rw [List.take_succ_eq_append_getElem hlt, List.map_append, List.map_append, hc.fst]; rfl
      · intro p hp
        rcases List.mem_append.1 hp with q | q
        · obtain ⟨y, y1, y2, y3⟩ := hc.buf p q
          exact ⟨y, y1, keep4 (keep y2) (by decide), y3⟩
        · simp at q
          subst q
          exact ⟨x, hx, keep4 r3n.drw (by decide), by show w.heap.size ≤ w'.heap.size; omega⟩
      · rw [List.map_append]
        refine List.nodup_append.2 ⟨hc.nd, by simp, ?_⟩
        intro a ha b hb e
        simp at hb
        rw [List.mem_map] at ha
        obtain ⟨p, hp, rfl⟩ := ha
        obtain ⟨y, y1, y2, y3⟩ := hc.buf p hp
        have := y2.lt
        omega
    · have hlt' : ¬ (i : Int) < ((m.ls.length : Nat) : Int) := by omega
      simp only [hlt', decide_false, e_fd, e_nck, e_pkt, e_pkf, e_gdtt, e_gdtf, e_gdft, e_gdff, e_ift, e_iff, e_not, e_ln, e_lnT, e_cp, e_cvi, e_ex20, e_ex21, e_ex30, e_ex31, e_ex32, e_add, e_sub, e_mul, e_quo, e_rem, e_and, e_or, e_xor, e_shl, e_shr, e_eql, e_neq, e_lss, e_leq, e_gtr, e_geq, e_beq, e_bne, e_peq1, e_peq2, e_pne1, e_pne2, e_zeq1, e_zeq2, e_zne1, e_zne2, e_feq1, e_fne1, e_feq2, e_fne2, e_seq, e_sne, e_ta1, e_ta2, Nat.zero_add, Nat.add_zero, Bool.not_true, Bool.not_false]
      unfold s52_p1
      have slv : scal lv = true := by rcases hlv with ⟨_, rfl⟩ | ⟨_, rfl⟩ <;> rfl
      refine ldn_r r3 (show 0 + 4 ≤ 4 by decide) ?_
      refine stn_r r2 rfl (show 0 + 4 ≤ 4 by decide) (show ([I 16, .slice (some ⟨ib, 0, none⟩) 12 12, lv, nilS] : List Value).all scal = true by simp only [List.all_cons, slv]; rfl) fun w4 r4 hk4 hz4 => ?_
      refine ldn_r r4 (show 0 + 4 ≤ 4 by decide) ?_
      have ei : i = m.ls.length := by omega
      rw [List.take_of_length_le (by omega)] at hc
      have keep4 : ∀ {b t l}, Row w' b t l → t ≠ 87 → Row w4 b t l := fun hr ht => hk4.row hr (fun (q : _ = _) => row_ne hr r2 ht q)
      have hsz := hk.size
      have hrest : rest = [] := List.eq_nil_of_length_eq_zero (by rw [hrl, ei]; omega)
      subst hrest
      have hdl' : done.length = m.ls.length := by omega
      have hfin := hK w4 lv (if 0 < m.ls.length then some lb else none) done (hk.then hk4 (fun k hk (q : k = _) => by omega)) (by rw [idxs_fst hc.fst]; exact keep4 ri (by decide))
      refine hfin ?_ ?_ (hc.kp hk4 (fun b l hr _ (q : b = _) => row_ne hr r2 (by decide) q))
      · rcases hlv with ⟨q, e⟩ | ⟨q, e⟩
        · rw [if_neg (by omega)]
          exact ⟨e, List.eq_nil_of_length_eq_zero (by omega)⟩
        · rw [if_pos q]
          refine ⟨m.ls.length, [], by rw [e, hdl'], by omega, by rw [hdl']; simp, keep4 (rl q) (by decide)⟩
      · intro b hb
        split at hb
        · cases hb; exact hlb
        · cases hb

theorem cclone_ok (h : Dk w d m s)
    (hK : ∀ w' ib lv' lob' ls', Kp (fun _ => False) w w' → w.heap.size ≤ ib → Row w' ib 21 (idxs ls') → Sl lnV 2 w' 100 lob' lv' ls' → (∀ b, lob' = some b → w.heap.size ≤ b) → Cln w w' s m.ls ls' → K (.agg #[I 16, .slice (some ⟨ib, 0, none⟩) 12 12, lv', nilS]) w') :
    cl Try.prog 52 #[P d 3] K w := by
  have hll := h.lsl
  apply c52
  unfold s52_p11
  refine nw_r fun w1 r1 hk1 hz1 => ?_
  have r1' : Row w1 w.heap.size 87 [I 0, nilS, nilS, nilS] := r1
  have tail : ∀ w3 t3 ib, Kp (fun _ => False) w w3 → w.heap.size < t3 → w.heap.size ≤ ib → Row w3 w.heap.size 87 [I 0, nilS, nilS, nilS] → Row w3 t3 87 [I 16, .slice (some ⟨ib, 0, none⟩) 12 12, nilS, nilS] → Row w3 ib 21 (List.replicate 12 (.int .i32 0)) → s52_p9 K (P d 3) (P w.heap.size 0) (P t3 0) w3 := by
    intro w3 t3 ib hk3 ht3 hib r2 r3 ri
    unfold s52_p9 s52_p9_d
    simp only [e_fd, e_nck, e_pkt, e_pkf, e_gdtt, e_gdtf, e_gdft, e_gdff, e_ift, e_iff, e_not, e_ln, e_lnT, e_cp, e_cvi, e_ex20, e_ex21, e_ex30, e_ex31, e_ex32, e_add, e_sub, e_mul, e_quo, e_rem, e_and, e_or, e_xor, e_shl, e_shr, e_eql, e_neq, e_lss, e_leq, e_gtr, e_geq, e_beq, e_bne, e_peq1, e_peq2, e_pne1, e_pne2, e_zeq1, e_zeq2, e_zne1, e_zne2, e_feq1, e_fne1, e_feq2, e_fne2, e_seq, e_sne, e_ta1, e_ta2, Nat.zero_add, Nat.add_zero, Bool.not_true, Bool.not_false]
    have hd3 := h.kp' (hk3.trans kp_drw)
    refine ld1_r r3.drw rfl ?_
    refine ld1_r hd3.disk rfl ?_
    have hv : Vs (fun n : Int => Value.int .i32 n) (drw w3) (.slice (some ⟨m.ib, 0, none⟩) ((List.range 12).map (fun k => ((pos m.ls k : Nat) : Int))).length 12) ((List.range 12).map (fun k => ((pos m.ls k : Nat) : Int))) :=
      vs_row (junk := []) (by rw [List.append_nil, ← idxs_int]; exact hd3.idx) (by simp) (by simp)
    have hlen : ((List.range 12).map (fun k => ((pos m.ls k : Nat) : Int))).length = 12 := by simp
    rw [hlen] at hv
    refine cp_r (o := 0) (n := 12) ri.drw hv hlen (by rw [List.length_replicate]; omega) (fun _ => rfl) fun w4 r4 hk4 hz4 => ?_
    rw [List.take_zero, List.nil_append, Nat.zero_add, List.drop_of_length_le (by rw [List.length_replicate]; omega), List.append_nil, ← idxs_int] at r4
    have hsz := hk3.size
    have hk04 : Kp (fun _ => False) w w4 := (hk3.trans kp_drw).then hk4 (fun k hk (q : k = _) => by omega)
    have keep : ∀ {b t l}, Row w3 b t l → t ≠ 21 → Row w4 b t l := fun hr ht => hk4.row hr.drw (fun (q : _ = _) => row_ne hr ri ht q)
    have hd4 := h.kp' hk04
    unfold s52_p8
    simp only [e_fd, e_nck, e_pkt, e_pkf, e_gdtt, e_gdtf, e_gdft, e_gdff, e_ift, e_iff, e_not, e_ln, e_lnT, e_cp, e_cvi, e_ex20, e_ex21, e_ex30, e_ex31, e_ex32, e_add, e_sub, e_mul, e_quo, e_rem, e_and, e_or, e_xor, e_shl, e_shr, e_eql, e_neq, e_lss, e_leq, e_gtr, e_geq, e_beq, e_bne, e_peq1, e_peq2, e_pne1, e_pne2, e_zeq1, e_zeq2, e_zne1, e_zne2, e_feq1, e_fne1, e_feq2, e_fne2, e_seq, e_sne, e_ta1, e_ta2, Nat.zero_add, Nat.add_zero, Bool.not_true, Bool.not_false]
    refine ld1_r hd4.disk rfl ?_
    refine hd4.lines.ln ?_
    simp only [e_fd, e_nck, e_pkt, e_pkf, e_gdtt, e_gdtf, e_gdft, e_gdff, e_ift, e_iff, e_not, e_ln, e_lnT, e_cp, e_cvi, e_ex20, e_ex21, e_ex30, e_ex31, e_ex32, e_add, e_sub, e_mul, e_quo, e_rem, e_and, e_or, e_xor, e_shl, e_shr, e_eql, e_neq, e_lss, e_leq, e_gtr, e_geq, e_beq, e_bne, e_peq1, e_peq2, e_pne1, e_pne2, e_zeq1, e_zeq2, e_zne1, e_zne2, e_feq1, e_fne1, e_feq2, e_fne2, e_seq, e_sne, e_ta1, e_ta2, Nat.zero_add, Nat.add_zero, Bool.not_true, Bool.not_false]
    by_cases h0 : 0 < m.ls.length
    · have h0' : (0 : Int) < ((m.ls.length : Nat) : Int) := by omega
      simp only [h0', decide_true, e_fd, e_nck, e_pkt, e_pkf, e_gdtt, e_gdtf, e_gdft, e_gdff, e_ift, e_iff, e_not, e_ln, e_lnT, e_cp, e_cvi, e_ex20, e_ex21, e_ex30, e_ex31, e_ex32, e_add, e_sub, e_mul, e_quo, e_rem, e_and, e_or, e_xor, e_shl, e_shr, e_eql, e_neq, e_lss, e_leq, e_gtr, e_geq, e_beq, e_bne, e_peq1, e_peq2, e_pne1, e_pne2, e_zeq1, e_zeq2, e_zne1, e_zne2, e_feq1, e_fne1, e_feq2, e_fne2, e_seq, e_sne, e_ta1, e_ta2, Nat.zero_add, Nat.add_zero, Bool.not_true, Bool.not_false]
      refine ld1_r hd4.disk rfl ?_
      refine hd4.lines.ln ?_
      refine mks_n (by omega) (by omega) fun w5 r5 hk5 hz5 => ?_
      try simp only [e_fd, e_nck, e_pkt, e_pkf, e_gdtt, e_gdtf, e_gdft, e_gdff, e_ift, e_iff, e_not, e_ln, e_lnT, e_cp, e_cvi, e_ex20, e_ex21, e_ex30, e_ex31, e_ex32, e_add, e_sub, e_mul, e_quo, e_rem, e_and, e_or, e_xor, e_shl, e_shr, e_eql, e_neq, e_lss, e_leq, e_gtr, e_geq, e_beq, e_bne, e_peq1, e_peq2, e_pne1, e_pne2, e_zeq1, e_zeq2, e_zne1, e_zne2, e_feq1, e_fne1, e_feq2, e_fne2, e_seq, e_sne, e_ta1, e_ta2, Nat.zero_add, Nat.add_zero, Bool.not_true, Bool.not_false]
      refine st1_r (hk5.row' (keep r3 (by decide))) (show 2 < 4 by decide) rfl fun w6 r6 hk6 hz6 => ?_
      have keep6 : ∀ {b t l}, Row w5 b t l → t ≠ 87 → Row w6 b t l := fun hr ht => hk6.row hr (fun (q : _ = _) => row_ne hr (hk5.row' (keep r3 (by decide))) ht q)
      have hs4 := hk4.size
      have hs5 := hk5.size
      refine cclone_loop h ((hk04.trans hk5).then hk6 (fun k hk (q : k = _) => by omega)) (Nat.le_refl _) (Nat.le_of_lt ht3) hib (lb := w4.heap.size) (by have := hk04.size; omega) (by omega) ?_ r6 (keep6 (hk5.row' r4) (by decide)) (.inr ⟨h0, rfl⟩) (fun _ => ⟨_, ?_, keep6 r5 (by decide)⟩) (fun w' lv' lob' ls' a1 a2 a3 a4 a5 => hK w' ib lv' lob' ls' a1 hib a2 a3 a4 a5)
      · exact hk6.row (hk5.row' (keep r2 (by decide))) (fun (q : _ = _) => by omega)
      · simp [List.length_flatten]
    · have h0' : ¬ (0 : Int) < ((m.ls.length : Nat) : Int) := by omega
      simp only [h0', decide_false, e_fd, e_nck, e_pkt, e_pkf, e_gdtt, e_gdtf, e_gdft, e_gdff, e_ift, e_iff, e_not, e_ln, e_lnT, e_cp, e_cvi, e_ex20, e_ex21, e_ex30, e_ex31, e_ex32, e_add, e_sub, e_mul, e_quo, e_rem, e_and, e_or, e_xor, e_shl, e_shr, e_eql, e_neq, e_lss, e_leq, e_gtr, e_geq, e_beq, e_bne, e_peq1, e_peq2, e_pne1, e_pne2, e_zeq1, e_zeq2, e_zne1, e_zne2, e_feq1, e_fne1, e_feq2, e_fne2, e_seq, e_sne, e_ta1, e_ta2, Nat.zero_add, Nat.add_zero, Bool.not_true, Bool.not_false]
      exact cclone_loop h hk04 (Nat.le_refl _) (Nat.le_of_lt ht3) hib (lb := w.heap.size) (Nat.le_refl _) (by omega) (keep r2 (by decide)) (keep r3 (by decide)) r4 (.inl ⟨by omega, rfl⟩) (fun q => absurd q h0) (fun w' lv' lob' ls' a1 a2 a3 a4 a5 => hK w' ib lv' lob' ls' a1 hib a2 a3 a4 a5)
  unfold s52_p10 s52_p10_d
  simp only [e_fd, e_nck, e_pkt, e_pkf, e_gdtt, e_gdtf, e_gdft, e_gdff, e_ift, e_iff, e_not, e_ln, e_lnT, e_cp, e_cvi, e_ex20, e_ex21, e_ex30, e_ex31, e_ex32, e_add, e_sub, e_mul, e_quo, e_rem, e_and, e_or, e_xor, e_shl, e_shr, e_eql, e_neq, e_lss, e_leq, e_gtr, e_geq, e_beq, e_bne, e_peq1, e_peq2, e_pne1, e_pne2, e_zeq1, e_zeq2, e_zne1, e_zne2, e_feq1, e_fne1, e_feq2, e_fne2, e_seq, e_sne, e_ta1, e_ta2, Nat.zero_add, Nat.add_zero, Bool.not_true, Bool.not_false]
  have hkd : Kp (fun _ => False) w (drw w1) := hk1.trans kp_drw
  have h1 := h.kp' hkd
  have rd := r1'.drw
  have hsz1 : (drw w1).heap.size = w.heap.size + 1 := hz1
  refine ld1_r h1.disk rfl ?_
  refine ld1_r h1.disk rfl ?_
  refine ⟨?_, ?_⟩
  · refine mks_r (n := 12) (by decide) (by decide) fun w2 r2 hk2 hz2 => ⟨hk2.below', ?_, ?_⟩
    · refine bdq_r rfl ?_
      refine nw_r fun w3 r3 hk3 hz3 => ⟨(hk2.trans hk3).below', ?_⟩
      refine stn_r r3 rfl (show 0 + 4 ≤ 4 by decide) rfl fun w4 r4 hk4 hz4 => ?_
      have hk04 : Kp (fun _ => False) w w4 := ((hkd.trans hk2).trans hk3).then hk4 (fun k hk (q : k = _) => by omega)
      exact tail w4 _ _ hk04 (by omega) (by omega) (hk4.row (hk3.row' (hk2.row' rd)) (fun (q : _ = _) => by omega)) r4 (hk4.row (hk3.row' r2) (fun (q : _ = _) => by omega))
    · refine nw_r fun w3 r3 hk3 hz3 => ⟨(hk2.trans hk3).below', ?_⟩
      refine bdq_r rfl ?_
      refine stn_r r3 rfl (show 0 + 4 ≤ 4 by decide) rfl fun w4 r4 hk4 hz4 => ?_
      have hk04 : Kp (fun _ => False) w w4 := ((hkd.trans hk2).trans hk3).then hk4 (fun k hk (q : k = _) => by omega)
      exact tail w4 _ _ hk04 (by omega) (by omega) (hk4.row (hk3.row' (hk2.row' rd)) (fun (q : _ = _) => by omega)) r4 (hk4.row (hk3.row' r2) (fun (q : _ = _) => by omega))
  · refine nw_r fun w2 r2 hk2 hz2 => ⟨hk2.below', ?_⟩
    refine mks_r (n := 12) (by decide) (by decide) fun w3 r3 hk3 hz3 => ⟨(hk2.trans hk3).below', ?_⟩
    refine bdq_r rfl ?_
    refine stn_r (hk3.row' r2) rfl (show 0 + 4 ≤ 4 by decide) rfl fun w4 r4 hk4 hz4 => ?_
    have hk04 : Kp (fun _ => False) w w4 := ((hkd.trans hk2).trans hk3).then hk4 (fun k hk (q : k = _) => by omega)
    exact tail w4 _ _ hk04 (by omega) (by omega) (hk4.row (hk3.row' (hk2.row' rd)) (fun (q : _ = _) => by omega)) r4 (hk4.row r3 (fun (q : _ = _) => by omega))

/-- what a clone is made of -/
structure Prt (w0 w : World) (d : Nat) (m : Mem) (s : DS) (pb ib : Nat) (lv kv : Value) (lob kob : Option Nat) (ls' : List (Nat × Nat)) : Prop where
  kp : Kp (fun _ => False) w0 w
  plat : Row w pb 5 (List.replicate 192 (.int .u8 0))
  pfar : w0.heap.size ≤ pb
  idx : Row w ib 21 (idxs ls')
  ifar : w0.heap.size ≤ ib
  lines : Sl lnV 2 w 100 lob lv ls'
  lfar : ∀ b, lob = some b → w0.heap.size ≤ b
  cln : Cln w0 w s m.ls ls'
  keep : Sl i1 1 w 3 kob kv s.keep
  kfar : ∀ b, kob = some b → w0.heap.size ≤ b
  pne : ∀ p ∈ ls', p.2 ≠ pb

theorem clone_tail {w1 : World} {pb ib : Nat} {lv kv : Value} {lob kob : Option Nat} {ls' : List (Nat × Nat)} (h : Dk w d m s) (q : Prt w w1 d m s pb ib lv kv lob kob ls')
    (hK : ∀ w' d' m', Kp (fun _ => False) w w' → Dk w' d' m' s → (∀ b, Own d' m' b → w.heap.size ≤ b) → K (P d' 0) w') :
    nw 91 #[I 16, I 12, .slice (some ⟨pb, 0, none⟩) 192 192, I 16, .slice (some ⟨ib, 0, none⟩) 12 12, lv, nilS, .bool s.off, I s.left, kv, I s.torn, I s.at_, I s.rd, I s.wr, I s.fl, I s.cr, I s.rs] (fun t39 w => s25_p2 K (P d 0) t39 w) w1 := by
  refine nw_r fun w2 r2 hk2 hz2 => ?_
  unfold s25_p2 s25_p2_d
  simp only [e_fd, e_nck, e_pkt, e_pkf, e_gdtt, e_gdtf, e_gdft, e_gdff, e_ift, e_iff, e_not, e_ln, e_lnT, e_cp, e_cvi, e_ex20, e_ex21, e_ex30, e_ex31, e_ex32, e_add, e_sub, e_mul, e_quo, e_rem, e_and, e_or, e_xor, e_shl, e_shr, e_eql, e_neq, e_lss, e_leq, e_gtr, e_geq, e_beq, e_bne, e_peq1, e_peq2, e_pne1, e_pne2, e_zeq1, e_zeq2, e_zne1, e_zne2, e_feq1, e_fne1, e_feq2, e_fne2, e_seq, e_sne, e_ta1, e_ta2, Nat.zero_add, Nat.add_zero, Bool.not_true, Bool.not_false]
  have hk02 : Kp (fun _ => False) w (drw w2) := (q.kp.trans hk2).trans kp_drw
  have hd := h.kp' hk02
  refine ld1_r r2.drw rfl ?_
  refine ld1_r hd.disk rfl ?_
  obtain ⟨L, hL1, hL2, hL3⟩ := hd.plat
  have hv : Vs U8 (drw w2) (.slice (some ⟨m.pb, 0, none⟩) L.length 192) L := vs_row (junk := []) (by rw [List.append_nil]; exact hL2) (by omega) (by omega)
  rw [hL1] at hv
  refine cp_r (o := 0) (n := 192) (hk2.row' q.plat).drw hv hL1 (by rw [List.length_replicate]; omega) (fun _ => rfl) fun w3 r3 hk3 hz3 => ?_
  rw [List.take_zero, List.nil_append, Nat.zero_add, List.drop_of_length_le (by rw [List.length_replicate]; omega), List.append_nil] at r3
  unfold s25_p1
  have hpf := q.pfar
  have hks := q.kp.size
  have hk03 : Kp (fun _ => False) w w3 := hk02.then hk3 (fun k hk (e : k = _) => by omega)
  have k13 : Kp (fun b => b = pb) w1 w3 := (hk2.none.trans kp_drw).trans hk3
  have keep : ∀ {b t l}, Row w1 b t l → t ≠ 5 → Row w3 b t l := fun hr ht => k13.row hr (fun (e : _ = _) => row_ne hr q.plat ht e)
  have hlen : ls'.length = m.ls.length := by have := congrArg List.length q.cln.fst; simpa using this
  refine hK w3 w1.heap.size ⟨pb, ib, lv, nilS, kv, lob, none, kob, ls', []⟩ hk03 ⟨?_, ⟨L, hL1, r3, hL3⟩, keep q.idx (by decide), ?_, ?_, ?_, ?_, ⟨rfl, rfl⟩, fun b hb => by simp at hb, ?_, ?_, h.fsec, h.rsec, h.klen, h.left0, h.left1, ?_⟩ ?_
  · exact hk3.row r2.drw (fun (e : _ = _) => by have := q.plat.lt; omega)
  · exact q.lines.kp k13 (fun b hb (e : b = _) => by obtain ⟨l, hr⟩ := q.lines.row hb; exact row_ne hr q.plat (by decide) e)
  · show (ls'.map (·.1)).Nodup
    rw [q.cln.fst]; exact h.lnd
  · intro p hp
    obtain ⟨x, h1, h2, h3⟩ := q.cln.buf p hp
    refine ⟨h.fr12 h1, x, h1, k13.row h2 (fun (e : _ = _) => q.pne p hp e)⟩
  · intro k hk
    refine h.frn k (fun p hp e => ?_)
    have : p.1 ∈ ls'.map (·.1) := by rw [q.cln.fst]; exact List.mem_map_of_mem hp
    rw [List.mem_map] at this
    obtain ⟨p', hp', e'⟩ := this
    exact hk p' hp' (by rw [e', e])
  · exact q.keep.kp k13 (fun b hb (e : b = _) => by obtain ⟨l, hr⟩ := q.keep.row hb; exact row_ne hr q.plat (by decide) e)
  · show (pb :: (ls'.map (·.2) ++ [])).Nodup
    rw [List.append_nil]
    refine List.nodup_cons.2 ⟨fun hb => ?_, q.cln.nd⟩
    rw [List.mem_map] at hb
    obtain ⟨p, hp, e⟩ := hb
    exact q.pne p hp e
  · show ls'.length + 0 ≤ 12
    have := h.lsl
    omega
  · rintro b (e | e | e | e | e | e | e | e)
    · omega
    · subst e; exact hpf
    · subst e; exact q.ifar
    · exact q.lfar b e
    · cases e
    · exact q.kfar b e
    · rw [List.mem_map] at e
      obtain ⟨p, hp, rfl⟩ := e
      obtain ⟨x, h1, h2, h3⟩ := q.cln.buf p hp
      exact h3
    · simp at e

theorem Cln.mono {w0 w1 w2 : World} {ls ls' : List (Nat × Nat)} (h : Cln w1 w2 s ls ls') (hs : w0.heap.size ≤ w1.heap.size) : Cln w0 w2 s ls ls' :=
  ⟨h.fst, fun p hp => by obtain ⟨x, h1, h2, h3⟩ := h.buf p hp; exact ⟨x, h1, h2, Nat.le_trans hs h3⟩, h.nd⟩
theorem Cln.kp' {w0 w1 w2 : World} {ls ls' : List (Nat × Nat)} (h : Cln w0 w1 s ls ls') (hk : Kp (fun _ => False) w1 w2) : Cln w0 w2 s ls ls' := h.kp hk (fun _ _ _ _ q => q)

theorem clone_ok (h : Dk w d m s) (hK : ∀ w' d' m', Kp (fun _ => False) w w' → Dk w' d' m' s → (∀ b, Own d' m' b → w.heap.size ≤ b) → K (P d' 0) w') : cl Try.prog 25 #[P d 0] K w := by
  apply c25
  unfold s25_p4 s25_p3 s25_p3_d
  simp only [e_fd, e_nck, e_pkt, e_pkf, e_gdtt, e_gdtf, e_gdft, e_gdff, e_ift, e_iff, e_not, e_ln, e_lnT, e_cp, e_cvi, e_ex20, e_ex21, e_ex30, e_ex31, e_ex32, e_add, e_sub, e_mul, e_quo, e_rem, e_and, e_or, e_xor, e_shl, e_shr, e_eql, e_neq, e_lss, e_leq, e_gtr, e_geq, e_beq, e_bne, e_peq1, e_peq2, e_pne1, e_pne2, e_zeq1, e_zeq2, e_zne1, e_zne2, e_feq1, e_fne1, e_feq2, e_fne2, e_seq, e_sne, e_ta1, e_ta2, Nat.zero_add, Nat.add_zero, Bool.not_true, Bool.not_false]
  have hk0 : Kp (fun _ => False) w (drw w) := kp_drw
  have hd := h.kp' hk0
  have hs0 : (drw w).heap.size = w.heap.size := rfl
  refine ldn_r hd.disk (show 0 + 2 ≤ 17 by decide) ?_
  refine ld1_r hd.disk rfl ?_
  simp only [e_fd, e_nck, e_pkt, e_pkf, e_gdtt, e_gdtf, e_gdft, e_gdff, e_ift, e_iff, e_not, e_ln, e_lnT, e_cp, e_cvi, e_ex20, e_ex21, e_ex30, e_ex31, e_ex32, e_add, e_sub, e_mul, e_quo, e_rem, e_and, e_or, e_xor, e_shl, e_shr, e_eql, e_neq, e_lss, e_leq, e_gtr, e_geq, e_beq, e_bne, e_peq1, e_peq2, e_pne1, e_pne2, e_zeq1, e_zeq2, e_zne1, e_zne2, e_feq1, e_fne1, e_feq2, e_fne2, e_seq, e_sne, e_ta1, e_ta2, Nat.zero_add, Nat.add_zero, Bool.not_true, Bool.not_false]
  refine ld1_r hd.disk rfl ?_
  refine ld1_r hd.disk rfl ?_
  refine ldn_r hd.disk (show 9 + 3 ≤ 17 by decide) ?_
  refine ldn_r hd.disk (show 12 + 5 ≤ 17 by decide) ?_
  refine ⟨?_, ?_⟩
  · refine mks_r (n := 192) (by decide) (by decide) fun w1 r1 hk1 hz1 => ⟨hk1.below', ?_⟩
    refine cclone_ok (hd.kp' hk1) fun w2 ib lv lob ls' hk2 hib ri sl lf hc => ⟨(hk1.trans hk2).below', ?_⟩
    refine copyPlan_ok (kv := m.kv) (keep := s.keep) (torn := s.torn) (a := s.at_) (hd.kp' (hk1.trans hk2)).kvs h.klen fun w3 kv kob hk3 sk kf => ⟨((hk1.trans hk2).trans hk3).below', ?_⟩
    refine bdq_r rfl ⟨((hk1.trans hk2).trans hk3).below', ?_⟩
    refine bdq_r rfl ?_
    have e2 := hk2.size
    refine clone_tail h (ib := ib) (lv := lv) (lob := lob) (ls' := ls') (kob := kob) ⟨((hk0.trans hk1).trans hk2).trans hk3, hk3.row' (hk2.row' r1), by omega, hk3.row' ri, by omega, sl.kp' hk3, fun b hb => by have := lf b hb; omega, (hc.mono (by omega)).kp' hk3, sk, fun b hb => by have := kf b hb; omega, fun p hp => ?_⟩ hK
    obtain ⟨x, _, _, h3⟩ := hc.buf p hp
    omega
  · refine cclone_ok hd fun w1 ib lv lob ls' hk1 hib ri sl lf hc => ⟨hk1.below', ?_, ?_⟩
    · refine mks_r (n := 192) (by decide) (by decide) fun w2 r2 hk2 hz2 => ⟨(hk1.trans hk2).below', ?_⟩
      refine copyPlan_ok (kv := m.kv) (keep := s.keep) (torn := s.torn) (a := s.at_) (hd.kp' (hk1.trans hk2)).kvs h.klen fun w3 kv kob hk3 sk kf => ⟨((hk1.trans hk2).trans hk3).below', ?_⟩
      refine bdq_r rfl ⟨((hk1.trans hk2).trans hk3).below', ?_⟩
      refine bdq_r rfl ?_
      have e1 := hk1.size
      refine clone_tail h (ib := ib) (lv := lv) (lob := lob) (ls' := ls') (kob := kob) ⟨((hk0.trans hk1).trans hk2).trans hk3, hk3.row' r2, by omega, hk3.row' (hk2.row' ri), by omega, (sl.kp' hk2).kp' hk3, fun b hb => by have := lf b hb; omega, ((hc.mono (by omega)).kp' hk2).kp' hk3, sk, fun b hb => by have := kf b hb; omega, fun p hp => ?_⟩ hK
      obtain ⟨x, _, h2, _⟩ := hc.buf p hp
      have := h2.lt
      omega
    · refine copyPlan_ok (kv := m.kv) (keep := s.keep) (torn := s.torn) (a := s.at_) (hd.kp' hk1).kvs h.klen fun w2 kv kob hk2 sk kf => ⟨(hk1.trans hk2).below', ?_, ?_⟩
      · refine mks_r (n := 192) (by decide) (by decide) fun w3 r3 hk3 hz3 => ⟨((hk1.trans hk2).trans hk3).below', ?_⟩
        refine bdq_r rfl ⟨((hk1.trans hk2).trans hk3).below', ?_⟩
        refine bdq_r rfl ?_
        have e1 := hk1.size
        have e2 := hk2.size
        refine clone_tail h (ib := ib) (lv := lv) (lob := lob) (ls' := ls') (kob := kob) ⟨((hk0.trans hk1).trans hk2).trans hk3, r3, by omega, hk3.row' (hk2.row' ri), by omega, (sl.kp' hk2).kp' hk3, fun b hb => by have := lf b hb; omega, ((hc.mono (by omega)).kp' hk2).kp' hk3, sk.kp' hk3, fun b hb => by have := kf b hb; omega, fun p hp => ?_⟩ hK
        obtain ⟨x, _, h2, _⟩ := hc.buf p hp
        have := h2.lt
        omega
      · refine bdq_r rfl ⟨(hk1.trans hk2).below', ?_⟩
        refine mks_r (n := 192) (by decide) (by decide) fun w3 r3 hk3 hz3 => ⟨((hk1.trans hk2).trans hk3).below', ?_⟩
        refine bdq_r rfl ?_
        have e1 := hk1.size
        have e2 := hk2.size
        refine clone_tail h (ib := ib) (lv := lv) (lob := lob) (ls' := ls') (kob := kob) ⟨((hk0.trans hk1).trans hk2).trans hk3, r3, by omega, hk3.row' (hk2.row' ri), by omega, (sl.kp' hk2).kp' hk3, fun b hb => by have := lf b hb; omega, ((hc.mono (by omega)).kp' hk2).kp' hk3, sk.kp' hk3, fun b hb => by have := kf b hb; omega, fun p hp => ?_⟩ hK
        obtain ⟨x, _, h2, _⟩ := hc.buf p hp
        have := h2.lt
        omega

theorem armed_ok (h : Dk w d m s) (hK : ∀ w' kv kob, Kp (fun _ => False) w w' → Sl i1 1 w' 3 kob kv s.keep → (∀ b, kob = some b → w.heap.size ≤ b) → K (.tuple #[I s.left, .agg #[kv, I s.torn, I s.at_]]) w') : cl Try.prog 23 #[P d 0] K w := by
  apply c23
  unfold s23_p3
  refine nw_r fun w1 r1 hk1 hz1 => ?_
  unfold s23_p2 s23_p2_d
  simp only [e_fd, e_nck, e_pkt, e_pkf, e_gdtt, e_gdtf, e_gdft, e_gdff, e_ift, e_iff, e_not, e_ln, e_lnT, e_cp, e_cvi, e_ex20, e_ex21, e_ex30, e_ex31, e_ex32, e_add, e_sub, e_mul, e_quo, e_rem, e_and, e_or, e_xor, e_shl, e_shr, e_eql, e_neq, e_lss, e_leq, e_gtr, e_geq, e_beq, e_bne, e_peq1, e_peq2, e_pne1, e_pne2, e_zeq1, e_zeq2, e_zne1, e_zne2, e_feq1, e_fne1, e_feq2, e_fne2, e_seq, e_sne, e_ta1, e_ta2, Nat.zero_add, Nat.add_zero, Bool.not_true, Bool.not_false]
  have hkd : Kp (fun _ => False) w (drw w1) := hk1.trans kp_drw
  have hs1 : (drw w1).heap.size = w.heap.size + 1 := hz1
  have hd := h.kp' hkd
  refine ld1_r hd.disk rfl ?_
  refine ldn_r hd.disk (show 9 + 3 ≤ 17 by decide) ?_
  refine copyPlan_ok (kv := m.kv) (keep := s.keep) (torn := s.torn) (a := s.at_) hd.kvs h.klen fun w2 kv kob hk2 sk kf => ⟨hk2.below', ?_⟩
  have r2 : Row w2 w.heap.size 32 [nilS, I 0, I 0] := hk2.row' r1.drw
  refine stn_r r2 rfl (show 0 + 3 ≤ 3 by decide) (show ([kv, I s.torn, I s.at_] : List Value).all scal = true by simp only [List.all_cons, sl_scal sk]; rfl) fun w3 r3 hk3 hz3 => ?_
  unfold s23_p1
  refine ldn_r r3 (show 0 + 3 ≤ 3 by decide) ?_
  refine hK w3 kv kob ((hkd.trans hk2).then hk3 (fun k hk (q : k = _) => by omega)) (sk.kp hk3 (fun b hb (q : b = _) => by obtain ⟨l, hr⟩ := sk.row hb; exact row_ne hr r2 (by decide) q)) (fun b hb => by have := kf b hb; omega)
end
end Go.Proofs.Qxb6500895a
