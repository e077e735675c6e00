import Derived.Test.Qxb6500897aP2
namespace Go.Proofs.Qxb6500897a
open Go.Sh Go.RowKit
set_option linter.unusedVariables false
set_option linter.unusedSimpArgs false

def blks (ts : List Tab) : List Nat := ts.flatMap fun t => [t.ob, t.ab]

/-- the tables, in memory -/
structure Tabs (w : World) (d tb : Nat) (H M now : Int) (ts : List Tab) : Prop where
  top : Row w d 98 [I H, I M, I now, .slice (some ⟨tb, 0, none⟩) ts.length ts.length]
  arr : Row w tb 102 (rows Tab.cells ts)
  occ : ∀ t ∈ ts, Row w t.ob 3 (t.occ.map I)
  adm : ∀ t ∈ ts, Row w t.ab 3 (t.adm.map I)
  nd : (d :: tb :: blks ts).Nodup

theorem mem_blks {ts : List Tab} {b : Nat} : b ∈ blks ts ↔ ∃ t ∈ ts, b = t.ob ∨ b = t.ab := by
  simp [blks]
theorem blks_append (a b : List Tab) : blks (a ++ b) = blks a ++ blks b := by simp [blks]

def optCells : Option Tab → List Value
  | none => [I 0, I 0, I 0, I 0, I 0, I 0, I 0, .slice none 0 0, .slice none 0 0]
  | some t => t.cells
theorem optCells_length (t : Option Tab) : (optCells t).length = 9 := by cases t <;> rfl
theorem rows_opt (ts : List Tab) : rows optCells (ts.map some) = rows Tab.cells ts := by
  simp only [rows, List.map_map]; rfl

/-- what New makes -/
def FreshTs (H : Int) (av : List Att) (ts : List Tab) : Prop := ts.map Tab.att = av ∧ ∀ t ∈ ts, t = newTab H t.att t.ob t.ab

theorem new_loop {K : Value → World → Prop} {H M : Int} {av : List Att} {v : Value} (W : World) {cb d tb : Nat} (hg : okCfg H M av = true)
    (hd : W.heap.size ≤ d) (ht : W.heap.size ≤ tb) (hne : d ≠ tb) (hcd : cb ≠ tb) {w : World} (hcb : Row w cb 30 [I H, I M, v]) (hv : AttS w v av) (hvb : ∀ b n m, v = .slice (some ⟨b, 0, none⟩) n m → b ≠ tb)
    (h1 : Row w d 98 [I H, I M, I 0, .slice (some ⟨tb, 0, none⟩) av.length av.length]) (h2 : Row w tb 102 (rows optCells (List.replicate av.length none))) (hw : Kp (fun _ => False) W w)
    (hK : ∀ w' ts, FreshTs H av ts → Tabs w' d tb H M 0 ts → (∀ b ∈ blks ts, W.heap.size ≤ b) → Kp (fun _ => False) W w' → K (.tuple #[.pointer (some ⟨d, 0, none⟩), .nilIface]) w') :
    s47_p6 K (.pointer (some ⟨cb, 0, none⟩)) (.pointer (some ⟨d, 0, none⟩)) v (I av.length) (I 0) w := by
  have hg' := hg
  unfold okCfg at hg'
  simp only [Bool.and_eq_true, decide_eq_true_eq, List.all_eq_true] at hg'
  obtain ⟨⟨⟨⟨⟨⟨g1, g2⟩, g3⟩, g4⟩, g5⟩, g6⟩, g7⟩ := hg'
  refine ⟨fun n l w => ∃ (i : Nat) (ts : List Tab), l = [.pointer (some ⟨cb, 0, none⟩), .pointer (some ⟨d, 0, none⟩), v, I av.length, I i] ∧ i ≤ av.length ∧ n = av.length - i ∧ ts.length = i ∧
      Row w cb 30 [I H, I M, v] ∧ AttS w v av ∧ Row w d 98 [I H, I M, I 0, .slice (some ⟨tb, 0, none⟩) av.length av.length] ∧
      Row w tb 102 (rows optCells (ts.map some ++ List.replicate (av.length - i) none)) ∧ FreshTs H (av.take i) ts ∧ (∀ t ∈ ts, Row w t.ob 3 (t.occ.map I)) ∧ (∀ t ∈ ts, Row w t.ab 3 (t.adm.map I)) ∧
      (d :: tb :: blks ts).Nodup ∧ (∀ b ∈ blks ts, W.heap.size ≤ b ∧ b < w.heap.size) ∧ Kp (fun _ => False) W w,
    av.length, ⟨0, [], rfl, by omega, by omega, rfl, hcb, hv, h1, by simpa using h2, ⟨by simp, by simp⟩, by simp, by simp, by simp [blks, hne], by simp [blks], hw⟩, ?_⟩
  rintro n l w ⟨i, ts, rfl, hi, rfl, hts, hcb, hv, h1, h2, hfr, hocc, hadm, hnd, hlt, hw⟩
  rw [s47_p6_Fe]
  unfold s47_p5
  simp only [e_fd, e_nck, e_pkt, e_pkf, e_gdtt, e_gdtf, e_gdft, e_gdff, e_ift, e_iff, e_not, e_ln, e_lnT, e_cp, e_cvi, e_ex20, e_ex21, e_ex30, e_ex31, e_ex32, e_add, e_sub, e_mul, e_quo, e_rem, e_and, e_or, e_xor, e_shl, e_shr, e_eql, e_neq, e_lss, e_leq, e_gtr, e_geq, e_beq, e_bne, e_peq1, e_peq2, e_pne1, e_pne2, e_zeq1, e_zeq2, e_zne1, e_zne2, e_feq1, e_fne1, e_feq2, e_fne2, e_seq, e_sne, e_ta1, e_ta2, Nat.zero_add, Nat.add_zero, Bool.not_true, Bool.not_false]
  by_cases hil : i < av.length
  · have hil' : ((i : Int) < (av.length : Int)) := by omega
    simp only [hil', decide_true, e_fd, e_nck, e_pkt, e_pkf, e_gdtt, e_gdtf, e_gdft, e_gdff, e_ift, e_iff, e_not, e_ln, e_lnT, e_cp, e_cvi, e_ex20, e_ex21, e_ex30, e_ex31, e_ex32, e_add, e_sub, e_mul, e_quo, e_rem, e_and, e_or, e_xor, e_shl, e_shr, e_eql, e_neq, e_lss, e_leq, e_gtr, e_geq, e_beq, e_bne, e_peq1, e_peq2, e_pne1, e_pne2, e_zeq1, e_zeq2, e_zne1, e_zne2, e_feq1, e_fne1, e_feq2, e_fne2, e_seq, e_sne, e_ta1, e_ta2, Nat.zero_add, Nat.add_zero, Bool.not_true, Bool.not_false]
    unfold s47_p4
    rcases hv with ⟨rfl, rfl⟩ | ⟨b, rfl, hv0⟩
    · simp at hil
    have hbt : b ≠ tb := hvb b _ _ rfl
    refine ⟨⟨by omega, by omega⟩, ?_⟩
    have ei : ((i : Int)).toNat = i := by omega
    simp only [ei, add_mk, Nat.zero_add]
    refine ldn_r hv0 (rows_le Att.cells_length av i hil) ?_
    rw [rows_slice Att.cells_length av i hil]
    refine nw_r fun w1 r1 hb1 hz1 => ?_
    refine stn_r r1 rfl (by simp) rfl fun w2 (r2 : Row w2 _ 59 (av[i]).cells) hb2 hz2 => ?_
    have k2 : Kp (fun _ => False) w w2 := hb1.then hb2 (by intro k hk (e : k = _); omega)
    unfold s47_p3 s47_p3_d
    simp only [e_fd, e_nck, e_pkt, e_pkf, e_gdtt, e_gdtf, e_gdft, e_gdff, e_ift, e_iff, e_not, e_ln, e_lnT, e_cp, e_cvi, e_ex20, e_ex21, e_ex30, e_ex31, e_ex32, e_add, e_sub, e_mul, e_quo, e_rem, e_and, e_or, e_xor, e_shl, e_shr, e_eql, e_neq, e_lss, e_leq, e_gtr, e_geq, e_beq, e_bne, e_peq1, e_peq2, e_pne1, e_pne2, e_zeq1, e_zeq2, e_zne1, e_zne2, e_feq1, e_fne1, e_feq2, e_fne2, e_seq, e_sne, e_ta1, e_ta2, Nat.zero_add, Nat.add_zero, Bool.not_true, Bool.not_false]
    refine ld1_r (k2.row' h1).drw rfl ?_
    refine ldn_r r2.drw (Nat.le_of_ble_eq_true rfl) ?_
    refine ld1_r (k2.row' hcb).drw rfl ?_
    refine ⟨⟨by omega, by omega⟩, ?_⟩
    simp only [ei, add_mk, Nat.zero_add]
    have ga := g7 _ (List.getElem_mem hil)
    unfold okAtt at ga
    simp only [Bool.and_eq_true, decide_eq_true_eq] at ga
    refine newTable_ok (a := av[i]) g1 g2 ga.1.1.1.1.2 ga.1.1.1.2 fun w3 ob ab hob hab hoa r3 r4 hb3 => ⟨hb3.below', ?_⟩
    simp only [drw_heap] at hob hab
    have k3 : Kp (fun _ => False) w w3 := k2.trans hb3.undrw
    have htb := h2.lt
    have hdl := h1.lt
    have hcl := hcb.lt
    have hbl := hv0.lt
    have hle := rows_le optCells_length (ts.map some ++ List.replicate (av.length - i) none) i (by simp; omega)
    refine stn_r (k3.row' h2) rfl hle rfl fun w4 r5 hb4 hz4 => ?_
    have e5 := rows_setn optCells_length (ts.map some ++ List.replicate (av.length - i) none) i (by simp; omega) (some (newTab H av[i] ob ab))
    have hz3 := hb3.size
    simp only [drw_heap] at hz3
    have e6 : (ts.map some ++ List.replicate (av.length - i) none).set i (some (newTab H av[i] ob ab)) = (ts ++ [newTab H av[i] ob ab]).map some ++ List.replicate (av.length - (i + 1)) none := by
      rw [List.set_append_right _ _ (by simp; omega)]
      have : av.length - i = (av.length - (i + 1)) + 1 := by omega
      rw [this, List.replicate_succ]
      simp [hts]
    rw [e6] at e5
    have r5' : Row w4 tb 102 (rows optCells ((ts ++ [newTab H av[i] ob ab]).map some ++ List.replicate (av.length - (i + 1)) none)) := by
      rw [← e5]; exact r5
    unfold s47_p2
    simp only [e_fd, e_nck, e_pkt, e_pkf, e_gdtt, e_gdtf, e_gdft, e_gdff, e_ift, e_iff, e_not, e_ln, e_lnT, e_cp, e_cvi, e_ex20, e_ex21, e_ex30, e_ex31, e_ex32, e_add, e_sub, e_mul, e_quo, e_rem, e_and, e_or, e_xor, e_shl, e_shr, e_eql, e_neq, e_lss, e_leq, e_gtr, e_geq, e_beq, e_bne, e_peq1, e_peq2, e_pne1, e_pne2, e_zeq1, e_zeq2, e_zne1, e_zne2, e_feq1, e_fne1, e_feq2, e_fne2, e_seq, e_sne, e_ta1, e_ta2, Nat.zero_add, Nat.add_zero, Bool.not_true, Bool.not_false]
    rw [wrap64_id (by omega) (by omega)]
    have hsz := hw.size
    have k4 : ∀ {b t l}, Row w b t l → b ≠ tb → Row w4 b t l := fun h hne => hb4.row (k3.row' h) hne
    refine ⟨av.length - (i + 1), by omega, i + 1, ts ++ [newTab H av[i] ob ab], by simp, by omega, rfl, by simp [hts], k4 hcb hcd, .inr ⟨b, rfl, k4 hv0 hbt⟩, k4 h1 hne, r5', ?_, ?_, ?_, ?_, ?_, ?_⟩
    · refine ⟨?_, ?_⟩
      · rw [List.map_append, hfr.1, List.take_add_one, List.getElem?_eq_getElem hil]; rfl
      · intro t htm
        rw [List.mem_append, List.mem_singleton] at htm
        rcases htm with h | rfl
        · exact hfr.2 t h
        · rfl
    · intro t htm
      rw [List.mem_append, List.mem_singleton] at htm
      rcases htm with h | rfl
      · refine k4 (hocc t h) ?_
        intro e
        have := List.nodup_cons.1 (List.nodup_cons.1 hnd).2
        exact this.1 (mem_blks.2 ⟨t, h, .inl e.symm⟩)
      · exact hb4.row r3 (by intro (e : ob = tb); omega)
    · intro t htm
      rw [List.mem_append, List.mem_singleton] at htm
      rcases htm with h | rfl
      · refine k4 (hadm t h) ?_
        intro e
        have := List.nodup_cons.1 (List.nodup_cons.1 hnd).2
        exact this.1 (mem_blks.2 ⟨t, h, .inr e.symm⟩)
      · exact hb4.row r4 (by intro (e : ab = tb); omega)
    · have e7 : d :: tb :: blks (ts ++ [newTab H av[i] ob ab]) = (d :: tb :: blks ts) ++ [ob, ab] := by rw [blks_append]; rfl
      rw [e7, List.nodup_append]
      refine ⟨hnd, by simp [hoa], ?_⟩
      intro x hx y hy
      have hxl : x < w.heap.size := by
        simp only [List.mem_cons] at hx
        rcases hx with rfl | rfl | hx
        · exact hdl
        · exact htb
        · exact (hlt x hx).2
      simp only [List.mem_cons, List.not_mem_nil, or_false] at hy
      rcases hy with rfl | rfl <;> omega
    · intro x hx
      rw [blks_append, List.mem_append] at hx
      rcases hx with hx | hx
      · have := hlt x hx; omega
      · have ho := r3.lt
        have ha := r4.lt
        have : x = ob ∨ x = ab := by simpa [blks, newTab] using hx
        omega
    · exact (hw.trans k3).then hb4 (by intro k hk (e : k = _); omega)
  · have hil' : ¬ ((i : Int) < (av.length : Int)) := by omega
    simp only [hil', decide_false, e_fd, e_nck, e_pkt, e_pkf, e_gdtt, e_gdtf, e_gdft, e_gdff, e_ift, e_iff, e_not, e_ln, e_lnT, e_cp, e_cvi, e_ex20, e_ex21, e_ex30, e_ex31, e_ex32, e_add, e_sub, e_mul, e_quo, e_rem, e_and, e_or, e_xor, e_shl, e_shr, e_eql, e_neq, e_lss, e_leq, e_gtr, e_geq, e_beq, e_bne, e_peq1, e_peq2, e_pne1, e_pne2, e_zeq1, e_zeq2, e_zne1, e_zne2, e_feq1, e_fne1, e_feq2, e_fne2, e_seq, e_sne, e_ta1, e_ta2, Nat.zero_add, Nat.add_zero, Bool.not_true, Bool.not_false]
    unfold s47_p1
    have e : i = av.length := by omega
    subst e
    rw [List.take_length] at hfr
    rw [Nat.sub_self, List.replicate_zero, List.append_nil, rows_opt] at h2
    refine hK w ts hfr ⟨by rw [hts]; exact h1, h2, hocc, hadm, hnd⟩ (fun b hb => (hlt b hb).1) hw

theorem new_good {K : Value → World → Prop} {H M : Int} {av : List Att} {v : Value} {w : World} (hg : okCfg H M av = true) (hv : AttS w v av)
    (hK : ∀ w' d tb ts, w.heap.size ≤ d → w.heap.size ≤ tb → FreshTs H av ts → Tabs w' d tb H M 0 ts → (∀ b ∈ blks ts, w.heap.size ≤ b) → Kp (fun _ => False) w w' → K (.tuple #[.pointer (some ⟨d, 0, none⟩), .nilIface]) w') :
    cl Try.prog 47 #[.agg #[I H, I M, v]] K w := by
  have hg' := hg
  unfold okCfg at hg'
  simp only [Bool.and_eq_true, decide_eq_true_eq] at hg'
  obtain ⟨⟨⟨⟨⟨⟨g1, g2⟩, g3⟩, g4⟩, g5⟩, g6⟩, g7⟩ := hg'
  apply c47
  unfold s47_p9
  refine nw_r fun w1 (r1 : Row w1 _ 30 [I H, I M, v]) hb1 hz1 => ?_
  refine ldn_r r1 (Nat.le_of_ble_eq_true rfl) ?_
  refine valid_ok (hv.kp hb1) fun w2 hb2 => ?_
  rw [hg]
  simp only [e_fd, e_nck, e_pkt, e_pkf, e_gdtt, e_gdtf, e_gdft, e_gdff, e_ift, e_iff, e_not, e_ln, e_lnT, e_cp, e_cvi, e_ex20, e_ex21, e_ex30, e_ex31, e_ex32, e_add, e_sub, e_mul, e_quo, e_rem, e_and, e_or, e_xor, e_shl, e_shr, e_eql, e_neq, e_lss, e_leq, e_gtr, e_geq, e_beq, e_bne, e_peq1, e_peq2, e_pne1, e_pne2, e_zeq1, e_zeq2, e_zne1, e_zne2, e_feq1, e_fne1, e_feq2, e_fne2, e_seq, e_sne, e_ta1, e_ta2, Nat.zero_add, Nat.add_zero, Bool.not_true, Bool.not_false]
  have r2 := hb2.row' r1
  have hz2 := hb2.size
  have hv2 := (hv.kp hb1).kp hb2
  unfold s47_p8 s47_p8_d
  simp only [e_fd, e_nck, e_pkt, e_pkf, e_gdtt, e_gdtf, e_gdft, e_gdff, e_ift, e_iff, e_not, e_ln, e_lnT, e_cp, e_cvi, e_ex20, e_ex21, e_ex30, e_ex31, e_ex32, e_add, e_sub, e_mul, e_quo, e_rem, e_and, e_or, e_xor, e_shl, e_shr, e_eql, e_neq, e_lss, e_leq, e_gtr, e_geq, e_beq, e_bne, e_peq1, e_peq2, e_pne1, e_pne2, e_zeq1, e_zeq2, e_zne1, e_zne2, e_feq1, e_fne1, e_feq2, e_fne2, e_seq, e_sne, e_ta1, e_ta2, Nat.zero_add, Nat.add_zero, Bool.not_true, Bool.not_false]
  refine ld1_r r2.drw rfl ?_
  refine ld1_r r2.drw rfl ?_
  refine ld1_r r2.drw rfl ?_
  refine hv.ln ?_
  refine mks_n (by omega) (by omega) fun w3 r3 hb3 hz3 => ⟨hb3.below', ?_⟩
  simp only [drw_heap] at hz3
  refine bdq_r (l := [I H, I M, I 0, .slice (some ⟨w2.heap.size, 0, none⟩) av.length av.length]) rfl ?_
  refine nw_r fun w4 (r4 : Row w4 _ 98 [I H, I M, I 0, .slice (some ⟨w2.heap.size, 0, none⟩) av.length av.length]) hb4 hz4 => ?_
  have k4 : Kp (fun _ => False) w2 w4 := hb3.undrw.trans hb4
  have k04 : Kp (fun _ => False) w w4 := (hb1.trans hb2).trans k4
  have r3' : Row w4 w2.heap.size 102 (rows optCells (List.replicate av.length none)) := by
    have := hb4.row' r3
    unfold rows
    rw [List.map_replicate]
    exact this
  unfold s47_p7
  simp only [e_fd, e_nck, e_pkt, e_pkf, e_gdtt, e_gdtf, e_gdft, e_gdff, e_ift, e_iff, e_not, e_ln, e_lnT, e_cp, e_cvi, e_ex20, e_ex21, e_ex30, e_ex31, e_ex32, e_add, e_sub, e_mul, e_quo, e_rem, e_and, e_or, e_xor, e_shl, e_shr, e_eql, e_neq, e_lss, e_leq, e_gtr, e_geq, e_beq, e_bne, e_peq1, e_peq2, e_pne1, e_pne2, e_zeq1, e_zeq2, e_zne1, e_zne2, e_feq1, e_fne1, e_feq2, e_fne2, e_seq, e_sne, e_ta1, e_ta2, Nat.zero_add, Nat.add_zero, Bool.not_true, Bool.not_false]
  refine ld1_r (k4.row' r2) rfl ?_
  refine hv.ln ?_
  refine new_loop w (cb := w.heap.size) (d := w3.heap.size) (tb := w2.heap.size) hg (by omega) (by omega) (by omega) (by have := r1.lt; omega) (k4.row' r2) (hv2.kp k4) ?_ r4 r3' k04
    (fun w' ts hf ht hb hk => hK w' _ _ ts (by omega) (by omega) hf ht hb hk)
  intro b n m e
  subst e
  rcases hv with ⟨h, _⟩ | ⟨b', h, hv⟩
  · cases h
  · cases h
    have := hv.lt
    omega

theorem new_bad {K : Value → World → Prop} {H M : Int} {av : List Att} {v : Value} {w : World} (hg : okCfg H M av = false) (hv : AttS w v av)
    (hK : ∀ w' b, Row w' b 111 [I 11, .string ⟨#[78, 101, 119]⟩, I 0, I 0, I 0, I 0] → Kp (fun _ => False) w w' → K (.tuple #[.pointer none, .iface 108 (.pointer (some ⟨b, 0, none⟩))]) w') :
    cl Try.prog 47 #[.agg #[I H, I M, v]] K w := by
  apply c47
  unfold s47_p9
  refine nw_r fun w1 (r1 : Row w1 _ 30 [I H, I M, v]) hb1 hz1 => ?_
  refine ldn_r r1 (Nat.le_of_ble_eq_true rfl) ?_
  refine valid_ok (hv.kp hb1) fun w2 hb2 => ?_
  rw [hg]
  simp only [e_fd, e_nck, e_pkt, e_pkf, e_gdtt, e_gdtf, e_gdft, e_gdff, e_ift, e_iff, e_not, e_ln, e_lnT, e_cp, e_cvi, e_ex20, e_ex21, e_ex30, e_ex31, e_ex32, e_add, e_sub, e_mul, e_quo, e_rem, e_and, e_or, e_xor, e_shl, e_shr, e_eql, e_neq, e_lss, e_leq, e_gtr, e_geq, e_beq, e_bne, e_peq1, e_peq2, e_pne1, e_pne2, e_zeq1, e_zeq2, e_zne1, e_zne2, e_feq1, e_fne1, e_feq2, e_fne2, e_seq, e_sne, e_ta1, e_ta2, Nat.zero_add, Nat.add_zero, Bool.not_true, Bool.not_false]
  refine bdq_r (l := [I 11, .string ⟨#[78, 101, 119]⟩, I 0, I 0, I 0, I 0]) rfl ?_
  refine nw_r fun w3 r3 hb3 hz3 => ?_
  exact hK w3 _ r3 ((hb1.trans hb2).trans hb3)

theorem codeOf_nil {K : Value → World → Prop} {w : World} (hK : K (I 0) w) : cl Try.prog 32 #[.nilIface] K w := by
  apply c32
  unfold s32_p1
  simp only [e_fd, e_nck, e_pkt, e_pkf, e_gdtt, e_gdtf, e_gdft, e_gdff, e_ift, e_iff, e_not, e_ln, e_lnT, e_cp, e_cvi, e_ex20, e_ex21, e_ex30, e_ex31, e_ex32, e_add, e_sub, e_mul, e_quo, e_rem, e_and, e_or, e_xor, e_shl, e_shr, e_eql, e_neq, e_lss, e_leq, e_gtr, e_geq, e_beq, e_bne, e_peq1, e_peq2, e_pne1, e_pne2, e_zeq1, e_zeq2, e_zne1, e_zne2, e_feq1, e_fne1, e_feq2, e_fne2, e_seq, e_sne, e_ta1, e_ta2, Nat.zero_add, Nat.add_zero, Bool.not_true, Bool.not_false]
  exact hK
theorem codeOf_err {b : Nat} {t : TypeId} {c : Int} {r : List Value} {K : Value → World → Prop} {w : World} (h : Row w b t (I c :: r)) (hK : K (I c) w) :
    cl Try.prog 32 #[.iface 108 (.pointer (some ⟨b, 0, none⟩))] K w := by
  apply c32
  unfold s32_p1
  simp only [e_fd, e_nck, e_pkt, e_pkf, e_gdtt, e_gdtf, e_gdft, e_gdff, e_ift, e_iff, e_not, e_ln, e_lnT, e_cp, e_cvi, e_ex20, e_ex21, e_ex30, e_ex31, e_ex32, e_add, e_sub, e_mul, e_quo, e_rem, e_and, e_or, e_xor, e_shl, e_shr, e_eql, e_neq, e_lss, e_leq, e_gtr, e_geq, e_beq, e_bne, e_peq1, e_peq2, e_pne1, e_pne2, e_zeq1, e_zeq2, e_zne1, e_zne2, e_feq1, e_fne1, e_feq2, e_fne2, e_seq, e_sne, e_ta1, e_ta2, Nat.zero_add, Nat.add_zero, Bool.not_true, Bool.not_false]
  exact ld1_r h rfl hK

theorem now_ok {d : Nat} {t : TypeId} {a b c : Int} {r : List Value} {K : Value → World → Prop} {w : World} (h : Row w d t (I a :: I b :: I c :: r)) (hK : K (I c) w) :
    cl Try.prog 31 #[.pointer (some ⟨d, 0, none⟩)] K w := by
  apply c31
  unfold s31_p1
  simp only [e_fd, e_nck, e_pkt, e_pkf, e_gdtt, e_gdtf, e_gdft, e_gdff, e_ift, e_iff, e_not, e_ln, e_lnT, e_cp, e_cvi, e_ex20, e_ex21, e_ex30, e_ex31, e_ex32, e_add, e_sub, e_mul, e_quo, e_rem, e_and, e_or, e_xor, e_shl, e_shr, e_eql, e_neq, e_lss, e_leq, e_gtr, e_geq, e_beq, e_bne, e_peq1, e_peq2, e_pne1, e_pne2, e_zeq1, e_zeq2, e_zne1, e_zne2, e_feq1, e_fne1, e_feq2, e_fne2, e_seq, e_sne, e_ta1, e_ta2, Nat.zero_add, Nat.add_zero, Bool.not_true, Bool.not_false]
  exact ld1_r h rfl hK

def parkA : List Att := [⟨9, 1, 9, 4, 6⟩, ⟨12, 3, 12, 5, 8⟩, ⟨7, 5, 5, 7, 0⟩, ⟨10, 9, 10, 3, 4⟩]

theorem park_ok {K : Value → World → Prop} {w : World}
    (hK : ∀ w' b, w.heap.size ≤ b → Row w' b 59 (rows Att.cells parkA) → Kp (fun _ => False) w w' → K (.agg #[I 6, I 90, .slice (some ⟨b, 0, none⟩) 4 4]) w') : cl Try.prog 16 #[] K w := by
  apply c16
  unfold s16_p1
  refine nw_r fun w1 r1 hb1 hz1 => ?_
  iterate 8 (apply bdq_r rfl)
  apply bsq_r (l := rows Att.cells parkA) rfl
  intro w2 r2 hb2 hz2
  apply bdq_r (l := [I 6, I 90, .slice (some ⟨w1.heap.size, 0, none⟩) 4 4]) rfl
  refine stn_r (hb2.row' r1) rfl (by simp) rfl fun w3 (r3 : Row w3 _ 30 [I 6, I 90, .slice (some ⟨w1.heap.size, 0, none⟩) 4 4]) hb3 hz3 => ?_
  refine ldn_r r3 (Nat.le_of_ble_eq_true rfl) ?_
  exact hK w3 w1.heap.size (by omega) (hb3.row r2 (by intro (e : w1.heap.size = _); omega)) ((hb1.trans hb2).then hb3 (by intro k hk (e : k = _); omega))
end Go.Proofs.Qxb6500897a
