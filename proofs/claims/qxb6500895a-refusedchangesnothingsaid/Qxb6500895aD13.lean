import Derived.Test.Qxb6500895aD12
namespace Go.Proofs.Qxb6500895a
open Go.Sh Go.RowKit
set_option linter.unusedVariables false
set_option linter.unusedSimpArgs false

def dirtyL (s : DS) : List Int := ((List.range 12).filter (fun k => (s.fr k).isSome)).map (fun k => ((k : Nat) : Int))

/-! ### slices of a law's own -/
def VsP (Q : Nat → Prop) (f : Int → Value) (w : World) (v : Value) (xs : List Int) : Prop := Vs f w v xs ∧ ∀ b o c, 0 < xs.length → v = .slice (some ⟨b, o, none⟩) xs.length c → ¬ Q b
def SecL (Q : Nat → Prop) (w : World) (v : Value) (f : Nat → List Int) : Prop :=
  ∃ ob cap vs, v = .slice (some ⟨ob, 0, none⟩) 12 cap ∧ 12 ≤ cap ∧ Row w ob 29 vs ∧ ¬ Q ob ∧ ∀ i, i < 12 → ∃ u, vs[i]? = some u ∧ SecV Q w u (some (f i))
section
variable {Q Q' T : Nat → Prop} {w w' : World} {v : Value} {f : Nat → List Int}
theorem VsP.mv {F : Int → Value} {xs : List Int} (h : VsP Q F w v xs) (hk : Kp T w w') (hT : ∀ b, b < w.heap.size → T b → Q b) (hQ : ∀ b, Q' b → Q b ∨ w.heap.size ≤ b) : VsP Q' F w' v xs := by
  refine ⟨h.1.kp hk (fun b o c h0 e q => h.2 b o c h0 e (hT b (h.1.lt h0 e) q)), fun b o c h0 e q => ?_⟩
  have := h.1.lt h0 e
  rcases hQ b q with q | q
  · exact h.2 b o c h0 e q
  · omega
theorem SecL.mv (h : SecL Q w v f) (hk : Kp T w w') (hT : ∀ b, b < w.heap.size → T b → Q b) (hQ : ∀ b, Q' b → Q b ∨ w.heap.size ≤ b) : SecL Q' w' v f := by
  obtain ⟨ob, cap, vs, h1, h2, h3, h4, h5⟩ := h
  refine ⟨ob, cap, vs, h1, h2, hk.row h3 (fun q => h4 (hT _ h3.lt q)), fun q => ?_, fun i hi => ?_⟩
  · rcases hQ ob q with q | q
    · exact h4 q
    · have := h3.lt; omega
  · obtain ⟨u, e1, e2⟩ := h5 i hi
    exact ⟨u, e1, e2.mv' hk (fun b l hr hn q => hn (hT b hr.lt q)) hQ⟩
theorem SecL.sc (h : SecL Q w v f) : scal v = true := by
  obtain ⟨ob, cap, vs, rfl, _⟩ := h; rfl
theorem VsP.sc {F : Int → Value} {xs : List Int} (h : VsP Q F w v xs) : scal v = true := by
  rcases h.1 with ⟨rfl, _⟩ | ⟨a, cap, rfl, _⟩ | ⟨b, o, cap, rfl, _⟩ <;> rfl
end

section
variable {w : World} {d : Nat} {m : Mem} {s : DS} {K : Value → World → Prop}

theorem dirty_mem (h : Dk w d m s) (x : Int) : x ∈ dirtyL s ↔ x ∈ m.ls.map (fun p => ((p.1 : Nat) : Int)) := by
  unfold dirtyL
  rw [List.mem_map, List.mem_map]
  constructor
  · rintro ⟨k, hk, rfl⟩
    rw [List.mem_filter, List.mem_range] at hk
    by_cases q : ∃ p ∈ m.ls, p.1 = k
    · obtain ⟨p, hp, e⟩ := q; exact ⟨p, hp, by rw [e]⟩
    · have := h.frn k (fun p hp e => q ⟨p, hp, e⟩)
      rw [this] at hk; simp at hk
  · rintro ⟨p, hp, rfl⟩
    obtain ⟨h12, x, hx, _⟩ := h.lin p hp
    exact ⟨p.1, by rw [List.mem_filter, List.mem_range]; exact ⟨h12, by rw [hx]; rfl⟩, rfl⟩
theorem dirty_rise (s : DS) : (dirtyL s).Pairwise (· < ·) := by
  unfold dirtyL
  rw [List.pairwise_map]
  refine List.Pairwise.imp ?_ (List.Pairwise.filter _ List.pairwise_lt_range)
  intro a b h
  omega

theorem dirty_ok (h : Dk w d m s) (hK : ∀ w' b n, Kp (fun _ => False) w w' → w.heap.size ≤ b → n = (dirtyL s).length → Row w' b 3 ((dirtyL s).map I) → K (.slice (some ⟨b, 0, none⟩) n n) w') : cl Try.prog 48 #[P d 0] K w := by
  have hll := h.lsl
  apply c48
  unfold s48_p1
  simp only [e_fd, e_nck, e_pkt, e_pkf, e_gdtt, e_gdtf, e_gdft, e_gdff, e_ift, e_iff, e_not, e_ln, e_lnT, e_cp, e_cvi, e_ex20, e_ex21, e_ex30, e_ex31, e_ex32, e_add, e_sub, e_mul, e_quo, e_rem, e_and, e_or, e_xor, e_shl, e_shr, e_eql, e_neq, e_lss, e_leq, e_gtr, e_geq, e_beq, e_bne, e_peq1, e_peq2, e_pne1, e_pne2, e_zeq1, e_zeq2, e_zne1, e_zne2, e_feq1, e_fne1, e_feq2, e_fne2, e_seq, e_sne, e_ta1, e_ta2, Nat.zero_add, Nat.add_zero, Bool.not_true, Bool.not_false]
  apply c66
  unfold s66_p4
  simp only [e_fd, e_nck, e_pkt, e_pkf, e_gdtt, e_gdtf, e_gdft, e_gdff, e_ift, e_iff, e_not, e_ln, e_lnT, e_cp, e_cvi, e_ex20, e_ex21, e_ex30, e_ex31, e_ex32, e_add, e_sub, e_mul, e_quo, e_rem, e_and, e_or, e_xor, e_shl, e_shr, e_eql, e_neq, e_lss, e_leq, e_gtr, e_geq, e_beq, e_bne, e_peq1, e_peq2, e_pne1, e_pne2, e_zeq1, e_zeq2, e_zne1, e_zne2, e_feq1, e_fne1, e_feq2, e_fne2, e_seq, e_sne, e_ta1, e_ta2, Nat.zero_add, Nat.add_zero, Bool.not_true, Bool.not_false]
  refine ld1_r h.disk rfl ?_
  refine h.lines.ln ?_
  refine mks_r (by omega) (by omega) fun w1 r1 hk1 hz1 => ?_
  try simp only [e_fd, e_nck, e_pkt, e_pkf, e_gdtt, e_gdtf, e_gdft, e_gdff, e_ift, e_iff, e_not, e_ln, e_lnT, e_cp, e_cvi, e_ex20, e_ex21, e_ex30, e_ex31, e_ex32, e_add, e_sub, e_mul, e_quo, e_rem, e_and, e_or, e_xor, e_shl, e_shr, e_eql, e_neq, e_lss, e_leq, e_gtr, e_geq, e_beq, e_bne, e_peq1, e_peq2, e_pne1, e_pne2, e_zeq1, e_zeq2, e_zne1, e_zne2, e_feq1, e_fne1, e_feq2, e_fne2, e_seq, e_sne, e_ta1, e_ta2, Nat.zero_add, Nat.add_zero, Bool.not_true, Bool.not_false]
  have h1 := h.kp' hk1
  refine ld1_r h1.disk rfl ?_
  refine h1.lines.ln ?_
  refine ⟨fun n l w' => ∃ (j : Nat) (rest : List Value), j ≤ m.ls.length ∧ n = m.ls.length - j ∧ l = [P d 3, .slice (some ⟨w.heap.size, 0, none⟩) m.ls.length m.ls.length, I m.ls.length, I j] ∧ rest.length = m.ls.length - j ∧ Row w' w.heap.size 3 ((m.ls.take j).map (fun p => I (p.1 : Nat)) ++ rest) ∧ Kp (fun _ => False) w w',
    m.ls.length, ⟨0, List.replicate m.ls.length (I 0), by omega, by omega, rfl, by simp, by simpa using r1, hk1⟩, ?_⟩
  rintro n l w2 ⟨j, rest, hj, rfl, rfl, hrl, r2, hk2⟩
  rw [s66_p3_Fe]
  unfold s66_p2
  simp only [e_fd, e_nck, e_pkt, e_pkf, e_gdtt, e_gdtf, e_gdft, e_gdff, e_ift, e_iff, e_not, e_ln, e_lnT, e_cp, e_cvi, e_ex20, e_ex21, e_ex30, e_ex31, e_ex32, e_add, e_sub, e_mul, e_quo, e_rem, e_and, e_or, e_xor, e_shl, e_shr, e_eql, e_neq, e_lss, e_leq, e_gtr, e_geq, e_beq, e_bne, e_peq1, e_peq2, e_pne1, e_pne2, e_zeq1, e_zeq2, e_zne1, e_zne2, e_feq1, e_fne1, e_feq2, e_fne2, e_seq, e_sne, e_ta1, e_ta2, Nat.zero_add, Nat.add_zero, Bool.not_true, Bool.not_false]
  have h2 := h.kp' hk2
  by_cases hlt : j < m.ls.length
  · have hlt' : (j : Int) < ((m.ls.length : Nat) : Int) := by omega
    simp only [hlt', decide_true, e_fd, e_nck, e_pkt, e_pkf, e_gdtt, e_gdtf, e_gdft, e_gdff, e_ift, e_iff, e_not, e_ln, e_lnT, e_cp, e_cvi, e_ex20, e_ex21, e_ex30, e_ex31, e_ex32, e_add, e_sub, e_mul, e_quo, e_rem, e_and, e_or, e_xor, e_shl, e_shr, e_eql, e_neq, e_lss, e_leq, e_gtr, e_geq, e_beq, e_bne, e_peq1, e_peq2, e_pne1, e_pne2, e_zeq1, e_zeq2, e_zne1, e_zne2, e_feq1, e_fne1, e_feq2, e_fne2, e_seq, e_sne, e_ta1, e_ta2, Nat.zero_add, Nat.add_zero, Bool.not_true, Bool.not_false]
    refine ld1_r h2.disk rfl ?_
    refine h2.lines.ix lnV_len hlt fun lb1 l1 _ hr1 hj1 hl1 _ => ?_
    simp only [e_fd, e_nck, e_pkt, e_pkf, e_gdtt, e_gdtf, e_gdft, e_gdff, e_ift, e_iff, e_not, e_ln, e_lnT, e_cp, e_cvi, e_ex20, e_ex21, e_ex30, e_ex31, e_ex32, e_add, e_sub, e_mul, e_quo, e_rem, e_and, e_or, e_xor, e_shl, e_shr, e_eql, e_neq, e_lss, e_leq, e_gtr, e_geq, e_beq, e_bne, e_peq1, e_peq2, e_pne1, e_pne2, e_zeq1, e_zeq2, e_zne1, e_zne2, e_feq1, e_fne1, e_feq2, e_fne2, e_seq, e_sne, e_ta1, e_ta2, Nat.zero_add, Nat.add_zero, Bool.not_true, Bool.not_false]
    refine ld1_r hr1 (v := I m.ls[j].1) (by have := hj1 0 (by decide); rw [Nat.add_zero] at this; rw [this]; rfl) ?_
    refine ix_b hlt ?_
    refine st1_r r2 (by simp; omega) rfl fun w3 r3 hk3 hz3 => ?_
    try simp only [e_fd, e_nck, e_pkt, e_pkf, e_gdtt, e_gdtf, e_gdft, e_gdff, e_ift, e_iff, e_not, e_ln, e_lnT, e_cp, e_cvi, e_ex20, e_ex21, e_ex30, e_ex31, e_ex32, e_add, e_sub, e_mul, e_quo, e_rem, e_and, e_or, e_xor, e_shl, e_shr, e_eql, e_neq, e_lss, e_leq, e_gtr, e_geq, e_beq, e_bne, e_peq1, e_peq2, e_pne1, e_pne2, e_zeq1, e_zeq2, e_zne1, e_zne2, e_feq1, e_fne1, e_feq2, e_fne2, e_seq, e_sne, e_ta1, e_ta2, Nat.zero_add, Nat.add_zero, Bool.not_true, Bool.not_false]
    rw [wrap64_id (by omega) (by omega)]
    refine ⟨m.ls.length - (j + 1), by omega, j + 1, rest.drop 1, by omega, rfl, by simp, by rw [List.length_drop]; omega, ?_, hk2.then hk3 (fun k hk (q : k = _) => by omega)⟩
    have e : ((m.ls.take j).map (fun p => I (p.1 : Nat)) ++ rest).set j (I m.ls[j].1) = (m.ls.take (j + 1)).map (fun p => I (p.1 : Nat)) ++ rest.drop 1 := by
      obtain ⟨x, rest', rfl⟩ : ∃ x rest', rest = x :: rest' := by cases rest with
        | nil => simp at hrl; omega
        | cons x r => exact ⟨x, r, rfl⟩
      rw [List.set_append, if_neg (by simp; omega), List.take_succ_eq_append_getElem hlt]
      have : j - ((m.ls.take j).map (fun p => I (p.1 : Nat))).length = 0 := by simp; omega
      rw [this, List.map_append, List.append_assoc]
      rfl
    rw [e] at r3
    exact r3
  · have hlt' : ¬ (j : Int) < ((m.ls.length : Nat) : Int) := by omega
    simp only [hlt', decide_false, e_fd, e_nck, e_pkt, e_pkf, e_gdtt, e_gdtf, e_gdft, e_gdff, e_ift, e_iff, e_not, e_ln, e_lnT, e_cp, e_cvi, e_ex20, e_ex21, e_ex30, e_ex31, e_ex32, e_add, e_sub, e_mul, e_quo, e_rem, e_and, e_or, e_xor, e_shl, e_shr, e_eql, e_neq, e_lss, e_leq, e_gtr, e_geq, e_beq, e_bne, e_peq1, e_peq2, e_pne1, e_pne2, e_zeq1, e_zeq2, e_zne1, e_zne2, e_feq1, e_fne1, e_feq2, e_fne2, e_seq, e_sne, e_ta1, e_ta2, Nat.zero_add, Nat.add_zero, Bool.not_true, Bool.not_false]
    unfold s66_p1
    have ej : j = m.ls.length := by omega
    have hre : rest = [] := List.eq_nil_of_length_eq_zero (by omega)
    subst hre
    rw [List.append_nil, List.take_of_length_le (by omega)] at r2
    have hxl : (m.ls.map (fun p => ((p.1 : Nat) : Int))).length = m.ls.length := by simp
    have e : m.ls.map (fun p => I (p.1 : Nat)) = (tab m.ls.length (fun k => (m.ls.map (fun p => ((p.1 : Nat) : Int))).getD k 0)).map I := by
      have := tab_of (m.ls.map (fun p => ((p.1 : Nat) : Int)))
      rw [hxl] at this
      rw [← this, List.map_map]; rfl
    rw [e] at r2
    refine sort_ok r2 (by omega) fun w3 g3 r3 hk3 hrel hs => ?_
    have hnd : (m.ls.map (fun p => ((p.1 : Nat) : Int))).Nodup := by
      have : m.ls.map (fun p => ((p.1 : Nat) : Int)) = (m.ls.map (·.1)).map (fun n : Nat => (n : Int)) := by rw [List.map_map]; rfl
      rw [this]
      exact List.Pairwise.map _ (fun a b hab e => hab (by omega)) h.lnd
    have hd := sorted_eq (g' := g3) hnd (by rw [hxl]; exact hrel) (by rw [hxl]; exact hs) (dirty_rise s) (dirty_mem h)
    rw [hxl] at hd
    have hsz := hk2.size
    rw [hd] at r3
    exact hK w3 w.heap.size m.ls.length (hk2.then hk3 (fun k hk (q : k = _) => by omega)) (Nat.le_refl _) (by rw [← hd, tab_len]) r3

theorem stats_ok (h : Dk w d m s) (hK : ∀ w', Kp (fun _ => False) w w' → K (.agg #[I s.rd, I s.wr, I s.fl, I s.cr, I s.rs]) w') : cl Try.prog 49 #[P d 0] K w := by
  apply c49
  unfold s49_p1
  refine nw_r fun w1 r1 hk1 hz1 => ?_
  simp only [e_fd, e_nck, e_pkt, e_pkf, e_gdtt, e_gdtf, e_gdft, e_gdff, e_ift, e_iff, e_not, e_ln, e_lnT, e_cp, e_cvi, e_ex20, e_ex21, e_ex30, e_ex31, e_ex32, e_add, e_sub, e_mul, e_quo, e_rem, e_and, e_or, e_xor, e_shl, e_shr, e_eql, e_neq, e_lss, e_leq, e_gtr, e_geq, e_beq, e_bne, e_peq1, e_peq2, e_pne1, e_pne2, e_zeq1, e_zeq2, e_zne1, e_zne2, e_feq1, e_fne1, e_feq2, e_fne2, e_seq, e_sne, e_ta1, e_ta2, Nat.zero_add, Nat.add_zero, Bool.not_true, Bool.not_false]
  refine ldn_r (h.kp' hk1).disk (show 12 + 5 ≤ 17 by decide) ?_
  refine stn_r r1 rfl (show 0 + 5 ≤ 5 by decide) rfl fun w2 r2 hk2 hz2 => ?_
  refine ldn_r r2 (show 0 + 5 ≤ 5 by decide) ?_
  exact hK w2 (hk1.then hk2 (fun k hk (q : k = _) => by omega))

theorem has_ok {v : Value} {xs : List Int} {n : Int} (h : Vs I w v xs) (hK : K (.bool (decide (n ∈ xs))) w) : cl Try.prog 24 #[v, I n] K w := by
  have hl := h.len
  apply c24
  unfold s24_p4
  refine h.ln ?_
  refine ⟨fun m l w' => w' = w ∧ ∃ j : Nat, j ≤ xs.length ∧ m = xs.length - j ∧ l = [I n, v, I xs.length, I j] ∧ ∀ i (hi : i < xs.length), i < j → xs[i] ≠ n, xs.length, ⟨rfl, 0, by omega, by omega, rfl, fun i _ hi => by omega⟩, ?_⟩
  rintro m l w' ⟨rfl, j, hj, rfl, rfl, hno⟩
  rw [s24_p3_Fe]
  unfold s24_p2
  simp only [e_fd, e_nck, e_pkt, e_pkf, e_gdtt, e_gdtf, e_gdft, e_gdff, e_ift, e_iff, e_not, e_ln, e_lnT, e_cp, e_cvi, e_ex20, e_ex21, e_ex30, e_ex31, e_ex32, e_add, e_sub, e_mul, e_quo, e_rem, e_and, e_or, e_xor, e_shl, e_shr, e_eql, e_neq, e_lss, e_leq, e_gtr, e_geq, e_beq, e_bne, e_peq1, e_peq2, e_pne1, e_pne2, e_zeq1, e_zeq2, e_zne1, e_zne2, e_feq1, e_fne1, e_feq2, e_fne2, e_seq, e_sne, e_ta1, e_ta2, Nat.zero_add, Nat.add_zero, Bool.not_true, Bool.not_false]
  by_cases hlt : j < xs.length
  · have hlt' : (j : Int) < (xs.length : Int) := by omega
    simp only [hlt', decide_true, e_fd, e_nck, e_pkt, e_pkf, e_gdtt, e_gdtf, e_gdft, e_gdff, e_ift, e_iff, e_not, e_ln, e_lnT, e_cp, e_cvi, e_ex20, e_ex21, e_ex30, e_ex31, e_ex32, e_add, e_sub, e_mul, e_quo, e_rem, e_and, e_or, e_xor, e_shl, e_shr, e_eql, e_neq, e_lss, e_leq, e_gtr, e_geq, e_beq, e_bne, e_peq1, e_peq2, e_pne1, e_pne2, e_zeq1, e_zeq2, e_zne1, e_zne2, e_feq1, e_fne1, e_feq2, e_fne2, e_seq, e_sne, e_ta1, e_ta2, Nat.zero_add, Nat.add_zero, Bool.not_true, Bool.not_false]
    refine h.ix hlt fun b1 q1 l1 => l1 _ ?_
    simp only [e_fd, e_nck, e_pkt, e_pkf, e_gdtt, e_gdtf, e_gdft, e_gdff, e_ift, e_iff, e_not, e_ln, e_lnT, e_cp, e_cvi, e_ex20, e_ex21, e_ex30, e_ex31, e_ex32, e_add, e_sub, e_mul, e_quo, e_rem, e_and, e_or, e_xor, e_shl, e_shr, e_eql, e_neq, e_lss, e_leq, e_gtr, e_geq, e_beq, e_bne, e_peq1, e_peq2, e_pne1, e_pne2, e_zeq1, e_zeq2, e_zne1, e_zne2, e_feq1, e_fne1, e_feq2, e_fne2, e_seq, e_sne, e_ta1, e_ta2, Nat.zero_add, Nat.add_zero, Bool.not_true, Bool.not_false]
    by_cases e : xs[j] = n
    · have e' : (xs[j] == n) = true := by simpa using e
      simp only [e', e_fd, e_nck, e_pkt, e_pkf, e_gdtt, e_gdtf, e_gdft, e_gdff, e_ift, e_iff, e_not, e_ln, e_lnT, e_cp, e_cvi, e_ex20, e_ex21, e_ex30, e_ex31, e_ex32, e_add, e_sub, e_mul, e_quo, e_rem, e_and, e_or, e_xor, e_shl, e_shr, e_eql, e_neq, e_lss, e_leq, e_gtr, e_geq, e_beq, e_bne, e_peq1, e_peq2, e_pne1, e_pne2, e_zeq1, e_zeq2, e_zne1, e_zne2, e_feq1, e_fne1, e_feq2, e_fne2, e_seq, e_sne, e_ta1, e_ta2, Nat.zero_add, Nat.add_zero, Bool.not_true, Bool.not_false]
      rw [decide_eq_true (by rw [← e]; exact List.getElem_mem hlt)] at hK
      exact hK
    · have e' : (xs[j] == n) = false := by simpa using e
      simp only [e', e_fd, e_nck, e_pkt, e_pkf, e_gdtt, e_gdtf, e_gdft, e_gdff, e_ift, e_iff, e_not, e_ln, e_lnT, e_cp, e_cvi, e_ex20, e_ex21, e_ex30, e_ex31, e_ex32, e_add, e_sub, e_mul, e_quo, e_rem, e_and, e_or, e_xor, e_shl, e_shr, e_eql, e_neq, e_lss, e_leq, e_gtr, e_geq, e_beq, e_bne, e_peq1, e_peq2, e_pne1, e_pne2, e_zeq1, e_zeq2, e_zne1, e_zne2, e_feq1, e_fne1, e_feq2, e_fne2, e_seq, e_sne, e_ta1, e_ta2, Nat.zero_add, Nat.add_zero, Bool.not_true, Bool.not_false]
      rw [wrap64_id (by omega) (by omega)]
      refine ⟨xs.length - (j + 1), by omega, by trivial, j + 1, by omega, rfl, by simp, fun i hi hij => ?_⟩
      by_cases q : i = j
      · subst q; exact e
      · exact hno i hi (by omega)
  · have hlt' : ¬ (j : Int) < (xs.length : Int) := by omega
    simp only [hlt', decide_false, e_fd, e_nck, e_pkt, e_pkf, e_gdtt, e_gdtf, e_gdft, e_gdff, e_ift, e_iff, e_not, e_ln, e_lnT, e_cp, e_cvi, e_ex20, e_ex21, e_ex30, e_ex31, e_ex32, e_add, e_sub, e_mul, e_quo, e_rem, e_and, e_or, e_xor, e_shl, e_shr, e_eql, e_neq, e_lss, e_leq, e_gtr, e_geq, e_beq, e_bne, e_peq1, e_peq2, e_pne1, e_pne2, e_zeq1, e_zeq2, e_zne1, e_zne2, e_feq1, e_fne1, e_feq2, e_fne2, e_seq, e_sne, e_ta1, e_ta2, Nat.zero_add, Nat.add_zero, Bool.not_true, Bool.not_false]
    rw [decide_eq_false (fun q => by obtain ⟨i, hi, e⟩ := List.getElem_of_mem q; exact hno i hi (by omega) e)] at hK
    exact hK

theorem untouched_ok {v : Value} {xs : List Int} (h : Vs U8 w v xs) (hx : ∀ x ∈ xs, x = 238) (hK : K (.bool true) w) : cl Try.prog 29 #[v] K w := by
  have hl := h.len
  apply c29
  unfold s29_p4
  refine h.ln ?_
  refine ⟨fun m l w' => w' = w ∧ ∃ j : Nat, j ≤ xs.length ∧ m = xs.length - j ∧ l = [v, I xs.length, I j], xs.length, ⟨rfl, 0, by omega, by omega, rfl⟩, ?_⟩
  rintro m l w' ⟨rfl, j, hj, rfl, rfl⟩
  rw [s29_p3_Fe]
  unfold s29_p2
  simp only [e_fd, e_nck, e_pkt, e_pkf, e_gdtt, e_gdtf, e_gdft, e_gdff, e_ift, e_iff, e_not, e_ln, e_lnT, e_cp, e_cvi, e_ex20, e_ex21, e_ex30, e_ex31, e_ex32, e_add, e_sub, e_mul, e_quo, e_rem, e_and, e_or, e_xor, e_shl, e_shr, e_eql, e_neq, e_lss, e_leq, e_gtr, e_geq, e_beq, e_bne, e_peq1, e_peq2, e_pne1, e_pne2, e_zeq1, e_zeq2, e_zne1, e_zne2, e_feq1, e_fne1, e_feq2, e_fne2, e_seq, e_sne, e_ta1, e_ta2, Nat.zero_add, Nat.add_zero, Bool.not_true, Bool.not_false]
  by_cases hlt : j < xs.length
  · have hlt' : (j : Int) < (xs.length : Int) := by omega
    simp only [hlt', decide_true, e_fd, e_nck, e_pkt, e_pkf, e_gdtt, e_gdtf, e_gdft, e_gdff, e_ift, e_iff, e_not, e_ln, e_lnT, e_cp, e_cvi, e_ex20, e_ex21, e_ex30, e_ex31, e_ex32, e_add, e_sub, e_mul, e_quo, e_rem, e_and, e_or, e_xor, e_shl, e_shr, e_eql, e_neq, e_lss, e_leq, e_gtr, e_geq, e_beq, e_bne, e_peq1, e_peq2, e_pne1, e_pne2, e_zeq1, e_zeq2, e_zne1, e_zne2, e_feq1, e_fne1, e_feq2, e_fne2, e_seq, e_sne, e_ta1, e_ta2, Nat.zero_add, Nat.add_zero, Bool.not_true, Bool.not_false]
    refine h.ix hlt fun b1 q1 l1 => l1 _ ?_
    have e' : (xs[j] != 238) = false := by have := hx _ (List.getElem_mem hlt); simp [this]
    simp only [e', e_fd, e_nck, e_pkt, e_pkf, e_gdtt, e_gdtf, e_gdft, e_gdff, e_ift, e_iff, e_not, e_ln, e_lnT, e_cp, e_cvi, e_ex20, e_ex21, e_ex30, e_ex31, e_ex32, e_add, e_sub, e_mul, e_quo, e_rem, e_and, e_or, e_xor, e_shl, e_shr, e_eql, e_neq, e_lss, e_leq, e_gtr, e_geq, e_beq, e_bne, e_peq1, e_peq2, e_pne1, e_pne2, e_zeq1, e_zeq2, e_zne1, e_zne2, e_feq1, e_fne1, e_feq2, e_fne2, e_seq, e_sne, e_ta1, e_ta2, Nat.zero_add, Nat.add_zero, Bool.not_true, Bool.not_false]
    rw [wrap64_id (by omega) (by omega)]
    exact ⟨xs.length - (j + 1), by omega, by trivial, j + 1, by omega, rfl, by simp⟩
  · have hlt' : ¬ (j : Int) < (xs.length : Int) := by omega
    simp only [hlt', decide_false, e_fd, e_nck, e_pkt, e_pkf, e_gdtt, e_gdtf, e_gdft, e_gdff, e_ift, e_iff, e_not, e_ln, e_lnT, e_cp, e_cvi, e_ex20, e_ex21, e_ex30, e_ex31, e_ex32, e_add, e_sub, e_mul, e_quo, e_rem, e_and, e_or, e_xor, e_shl, e_shr, e_eql, e_neq, e_lss, e_leq, e_gtr, e_geq, e_beq, e_bne, e_peq1, e_peq2, e_pne1, e_pne2, e_zeq1, e_zeq2, e_zne1, e_zne2, e_feq1, e_fne1, e_feq2, e_fne2, e_seq, e_sne, e_ta1, e_ta2, Nat.zero_add, Nat.add_zero, Bool.not_true, Bool.not_false]
    exact hK

/-- what readAll returns -/
structure Rd (w0 w : World) (ob : Nat) (vs : List Value) (bs : Nat → Nat) (f : Nat → List Int) (j : Nat) : Prop where
  row : Row w ob 29 vs
  len : vs.length = 12
  far : w0.heap.size ≤ ob
  sec : ∀ i, i < j → vs[i]? = some (buf (bs i)) ∧ Row w (bs i) 5 ((f i).map U8) ∧ w0.heap.size ≤ bs i
  inj : ∀ i k, i < k → k < j → bs i < bs k

theorem readAll_gen (h : Dk w d m s) (ho : s.off = false)
    (hK : ∀ w' ob vs bs r, Kp (fun b => b = d) w w' → Dk w' d m { s with rd := r } → Rd w w' ob vs bs (nowS s) 12 → K (.slice (some ⟨ob, 0, none⟩) 12 12) w') : cl Try.prog 22 #[P d 0] K w := by
  apply c22
  unfold s22_p4
  refine mks_r (n := 12) (by decide) (by decide) fun w1 r1 hk1 hz1 => ?_
  simp only [e_fd, e_nck, e_pkt, e_pkf, e_gdtt, e_gdtf, e_gdft, e_gdff, e_ift, e_iff, e_not, e_ln, e_lnT, e_cp, e_cvi, e_ex20, e_ex21, e_ex30, e_ex31, e_ex32, e_add, e_sub, e_mul, e_quo, e_rem, e_and, e_or, e_xor, e_shl, e_shr, e_eql, e_neq, e_lss, e_leq, e_gtr, e_geq, e_beq, e_bne, e_peq1, e_peq2, e_pne1, e_pne2, e_zeq1, e_zeq2, e_zne1, e_zne2, e_feq1, e_fne1, e_feq2, e_fne2, e_seq, e_sne, e_ta1, e_ta2, Nat.zero_add, Nat.add_zero, Bool.not_true, Bool.not_false]
  have hd0 := h.lt (.inl rfl)
  refine ⟨fun n l w' => ∃ (j : Nat) (vs : List Value) (bs : Nat → Nat) (r : Int), j ≤ 12 ∧ n = 12 - j ∧ l = [P d 0, .slice (some ⟨w.heap.size, 0, none⟩) 12 12, I 12, I j] ∧ Rd w w' w.heap.size vs bs (nowS s) j ∧ Dk w' d m { s with rd := r } ∧ Kp (fun b => b = d) w w',
    12, ⟨0, _, fun _ => 0, s.rd, by omega, by omega, rfl, ⟨r1, by simp, Nat.le_refl _, fun i hi => by omega, fun i k _ hk => by omega⟩, h.kp' hk1, hk1.none⟩, ?_⟩
  rintro n l w2 ⟨j, vs, bs, r, hj, rfl, rfl, hR, h2, hk2⟩
  rw [s22_p3_Fe]
  unfold s22_p2
  simp only [e_fd, e_nck, e_pkt, e_pkf, e_gdtt, e_gdtf, e_gdft, e_gdff, e_ift, e_iff, e_not, e_ln, e_lnT, e_cp, e_cvi, e_ex20, e_ex21, e_ex30, e_ex31, e_ex32, e_add, e_sub, e_mul, e_quo, e_rem, e_and, e_or, e_xor, e_shl, e_shr, e_eql, e_neq, e_lss, e_leq, e_gtr, e_geq, e_beq, e_bne, e_peq1, e_peq2, e_pne1, e_pne2, e_zeq1, e_zeq2, e_zne1, e_zne2, e_feq1, e_fne1, e_feq2, e_fne2, e_seq, e_sne, e_ta1, e_ta2, Nat.zero_add, Nat.add_zero, Bool.not_true, Bool.not_false]
  have hs2 := hk2.size
  have hvl := hR.len
  have r2 := hR.row
  by_cases hlt : j < 12
  · have hlt' : (j : Int) < 12 := by omega
    simp only [hlt', decide_true, e_fd, e_nck, e_pkt, e_pkf, e_gdtt, e_gdtf, e_gdft, e_gdff, e_ift, e_iff, e_not, e_ln, e_lnT, e_cp, e_cvi, e_ex20, e_ex21, e_ex30, e_ex31, e_ex32, e_add, e_sub, e_mul, e_quo, e_rem, e_and, e_or, e_xor, e_shl, e_shr, e_eql, e_neq, e_lss, e_leq, e_gtr, e_geq, e_beq, e_bne, e_peq1, e_peq2, e_pne1, e_pne2, e_zeq1, e_zeq2, e_zne1, e_zne2, e_feq1, e_fne1, e_feq2, e_fne2, e_seq, e_sne, e_ta1, e_ta2, Nat.zero_add, Nat.add_zero, Bool.not_true, Bool.not_false]
    refine mks_r (n := 16) (by decide) (by decide) fun w3 r3 hk3 hz3 => ?_
    refine ix_b hlt ?_
    refine st1_r (hk3.row' r2) (by omega) rfl fun w4 r4 hk4 hz4 => ?_
    have r34 : Row w4 w2.heap.size 5 (List.replicate 16 (U8 0)) := hk4.row r3 (fun (q : _ = _) => row_ne r3 (hk3.row' r2) (by decide) q)
    refine ix_b hlt ?_
    refine ld1_r r4 (v := .slice (some ⟨w2.heap.size, 0, none⟩) 16 16) (by rw [List.getElem?_set, if_pos rfl, if_pos (by omega)]) ?_
    have nown : ¬ Own d m w.heap.size := fun q => by have := h.lt q; omega
    have h4 : Dk w4 d m { s with rd := r } := (h2.kp' hk3).frame hk4 (fun b hb (q : b = _) => nown (by rw [← q]; exact hb))
    have nb : ¬ Own d m w2.heap.size := fun q => by have := h.lt q; omega
    have hck : chkC { s with rd := r } (j : Int) ((16 : Nat) : Int) = 0 := by
      unfold chkC
      rw [if_neg (by show ¬ s.off = true; rw [ho]; decide), if_neg (by omega), if_neg (by decide)]
    have rdo := fun K hK => read_ok (L := List.replicate 16 (0 : Int)) (i := (j : Int)) (b := w2.heap.size) (cap := 16) (w := w4) (K := K) h4 (by rw [List.map_replicate]; exact r34) nb hK
    have hlen : (List.replicate 16 (0 : Int)).length = 16 := by decide
    rw [hlen] at rdo
    refine rdo _ fun w5 e5 h5 he5 r5 hk5 => ?_
    rw [hck] at he5
    refine he5.neq ?_
    rw [decide_eq_false (fun q => q rfl)]
    simp only [e_fd, e_nck, e_pkt, e_pkf, e_gdtt, e_gdtf, e_gdft, e_gdff, e_ift, e_iff, e_not, e_ln, e_lnT, e_cp, e_cvi, e_ex20, e_ex21, e_ex30, e_ex31, e_ex32, e_add, e_sub, e_mul, e_quo, e_rem, e_and, e_or, e_xor, e_shl, e_shr, e_eql, e_neq, e_lss, e_leq, e_gtr, e_geq, e_beq, e_bne, e_peq1, e_peq2, e_pne1, e_pne2, e_zeq1, e_zeq2, e_zne1, e_zne2, e_feq1, e_fne1, e_feq2, e_fne2, e_seq, e_sne, e_ta1, e_ta2, Nat.zero_add, Nat.add_zero, Bool.not_true, Bool.not_false]
    rw [wrap64_id (by omega) (by omega)]
    have hnow : rdD { s with rd := r } (j : Int) (List.replicate 16 0) = nowS s j := by
      unfold rdD
      rw [hlen, if_neg (by rw [hck]; decide)]
      have : ((j : Int)).toNat = j := by omega
      rw [this]; rfl
    rw [hnow] at r5
    have hrs : rdS { s with rd := r } (j : Int) ((16 : Nat) : Int) = { s with rd := inc r } := by
      unfold rdS
      rw [if_neg (by rw [hck]; decide)]
    rw [hrs] at h5
    have hk25 : Kp (fun b => b = d ∨ b = w.heap.size) w2 w5 := ((hk3.none.trans (hk4.mono fun _ _ q => .inr q))).then hk5 (fun k hk q => by rcases q with q | q; exact .inl q; omega)
    refine ⟨12 - (j + 1), by omega, j + 1, _, upd bs j w2.heap.size, inc r, by omega, rfl, by simp, ⟨hk5.row r4 ?_, by rw [List.length_set]; exact hvl, hR.far, fun i hi => ?_, fun i k hik hkj => ?_⟩, h5, hk2.then hk25 (fun k hk q => by rcases q with q | q; exact q; omega)⟩
    · rintro (q | q)
      · omega
      · exact row_ne r4 r34 (by decide) q
    · rw [List.getElem?_set]
      unfold upd
      by_cases e : j = i
      · subst e
        rw [if_pos rfl, if_pos (by omega), if_pos rfl]
        exact ⟨rfl, r5, hs2⟩
      · rw [if_neg e, if_neg (fun q => e q.symm)]
        obtain ⟨e1, e2, e3⟩ := hR.sec i (by omega)
        refine ⟨e1, hk25.row e2 (fun q => ?_), e3⟩
        rcases q with q | q
        · rw [q] at e2; exact row_ne e2 h2.disk (by decide) rfl
        · exact row_ne e2 r2 (by decide) q
    · unfold upd
      rw [if_neg (show ¬ i = j by omega)]
      by_cases e : k = j
      · subst e
        rw [if_pos rfl]
        obtain ⟨_, e2, _⟩ := hR.sec i hik
        exact e2.lt
      · rw [if_neg e]; exact hR.inj i k hik (by omega)
  · have hlt' : ¬ (j : Int) < 12 := by omega
    simp only [hlt', decide_false, e_fd, e_nck, e_pkt, e_pkf, e_gdtt, e_gdtf, e_gdft, e_gdff, e_ift, e_iff, e_not, e_ln, e_lnT, e_cp, e_cvi, e_ex20, e_ex21, e_ex30, e_ex31, e_ex32, e_add, e_sub, e_mul, e_quo, e_rem, e_and, e_or, e_xor, e_shl, e_shr, e_eql, e_neq, e_lss, e_leq, e_gtr, e_geq, e_beq, e_bne, e_peq1, e_peq2, e_pne1, e_pne2, e_zeq1, e_zeq2, e_zne1, e_zne2, e_feq1, e_fne1, e_feq2, e_fne2, e_seq, e_sne, e_ta1, e_ta2, Nat.zero_add, Nat.add_zero, Bool.not_true, Bool.not_false]
    unfold s22_p1
    have : j = 12 := by omega
    subst this
    exact hK w2 _ vs bs r hk2 h2 hR

theorem readAll_ok {Q : Nat → Prop} (h : Dk w d m s) (ho : s.off = false) (hQ : ∀ b, Q b → b < w.heap.size)
    (hK : ∀ w' v r, Kp (fun b => b = d) w w' → Dk w' d m { s with rd := r } → SecL Q w' v (nowS s) → K v w') : cl Try.prog 22 #[P d 0] K w := by
  refine readAll_gen h ho fun w' ob vs bs r hk hd hR => hK w' _ r hk hd ⟨ob, 12, vs, rfl, Nat.le_refl _, hR.row, fun q => by have := hQ _ q; have := hR.far; omega, fun i hi => ?_⟩
  obtain ⟨e1, e2, e3⟩ := hR.sec i hi
  have hsec := (h.now hi).1
  exact ⟨_, e1, .inr ⟨nowS s i, bs i, 16, [], rfl, by rw [hsec]; rfl, by omega, by omega, by rw [List.append_nil]; exact e2, fun q => by have := hQ _ q; omega⟩⟩

theorem sameSectors_ok {Q Q' : Nat → Prop} {a b : Value} {f g : Nat → List Int} (ha : SecL Q w a f) (hb : SecL Q' w b g) (hfg : ∀ i, i < 12 → f i = g i) (hK : ∀ w', Kp (fun _ => False) w w' → K (.bool true) w') : cl Try.prog 27 #[a, b] K w := by
  obtain ⟨oa, ca, va, rfl, hca, ra, _, hva⟩ := ha
  obtain ⟨ob, cb, vb, rfl, hcb, rb, _, hvb⟩ := hb
  apply c27
  unfold s27_p8
  simp only [e_fd, e_nck, e_pkt, e_pkf, e_gdtt, e_gdtf, e_gdft, e_gdff, e_ift, e_iff, e_not, e_ln, e_lnT, e_cp, e_cvi, e_ex20, e_ex21, e_ex30, e_ex31, e_ex32, e_add, e_sub, e_mul, e_quo, e_rem, e_and, e_or, e_xor, e_shl, e_shr, e_eql, e_neq, e_lss, e_leq, e_gtr, e_geq, e_beq, e_bne, e_peq1, e_peq2, e_pne1, e_pne2, e_zeq1, e_zeq2, e_zne1, e_zne2, e_feq1, e_fne1, e_feq2, e_fne2, e_seq, e_sne, e_ta1, e_ta2, Nat.zero_add, Nat.add_zero, Bool.not_true, Bool.not_false]
  have e12 : (((12 : Nat) : Int) != 12) = false := by decide
  try simp only [e12, e_fd, e_nck, e_pkt, e_pkf, e_gdtt, e_gdtf, e_gdft, e_gdff, e_ift, e_iff, e_not, e_ln, e_lnT, e_cp, e_cvi, e_ex20, e_ex21, e_ex30, e_ex31, e_ex32, e_add, e_sub, e_mul, e_quo, e_rem, e_and, e_or, e_xor, e_shl, e_shr, e_eql, e_neq, e_lss, e_leq, e_gtr, e_geq, e_beq, e_bne, e_peq1, e_peq2, e_pne1, e_pne2, e_zeq1, e_zeq2, e_zne1, e_zne2, e_feq1, e_fne1, e_feq2, e_fne2, e_seq, e_sne, e_ta1, e_ta2, Nat.zero_add, Nat.add_zero, Bool.not_true, Bool.not_false]
  refine ⟨fun m l w' => ∃ j : Nat, j ≤ 12 ∧ m = 12 - j ∧ l = [.slice (some ⟨oa, 0, none⟩) 12 ca, .slice (some ⟨ob, 0, none⟩) 12 cb, I 12, I j] ∧ Kp (fun _ => False) w w', 12, ⟨0, by omega, by omega, rfl, Kp.refl _ _⟩, ?_⟩
  rintro m l w1 ⟨j, hj, rfl, rfl, hk1⟩
  rw [s27_p7_Fe]
  unfold s27_p6
  simp only [e_fd, e_nck, e_pkt, e_pkf, e_gdtt, e_gdtf, e_gdft, e_gdff, e_ift, e_iff, e_not, e_ln, e_lnT, e_cp, e_cvi, e_ex20, e_ex21, e_ex30, e_ex31, e_ex32, e_add, e_sub, e_mul, e_quo, e_rem, e_and, e_or, e_xor, e_shl, e_shr, e_eql, e_neq, e_lss, e_leq, e_gtr, e_geq, e_beq, e_bne, e_peq1, e_peq2, e_pne1, e_pne2, e_zeq1, e_zeq2, e_zne1, e_zne2, e_feq1, e_fne1, e_feq2, e_fne2, e_seq, e_sne, e_ta1, e_ta2, Nat.zero_add, Nat.add_zero, Bool.not_true, Bool.not_false]
  by_cases hlt : j < 12
  · have hlt' : (j : Int) < 12 := by omega
    simp only [hlt', decide_true, e_fd, e_nck, e_pkt, e_pkf, e_gdtt, e_gdtf, e_gdft, e_gdff, e_ift, e_iff, e_not, e_ln, e_lnT, e_cp, e_cvi, e_ex20, e_ex21, e_ex30, e_ex31, e_ex32, e_add, e_sub, e_mul, e_quo, e_rem, e_and, e_or, e_xor, e_shl, e_shr, e_eql, e_neq, e_lss, e_leq, e_gtr, e_geq, e_beq, e_bne, e_peq1, e_peq2, e_pne1, e_pne2, e_zeq1, e_zeq2, e_zne1, e_zne2, e_feq1, e_fne1, e_feq2, e_fne2, e_seq, e_sne, e_ta1, e_ta2, Nat.zero_add, Nat.add_zero, Bool.not_true, Bool.not_false]
    unfold s27_p5 s27_p4 s27_p4_d
    have hkd : Kp (fun _ => False) w (drw w1) := hk1.trans kp_drw
    obtain ⟨ua, a1, a2⟩ := hva j hlt
    obtain ⟨ub, b1, b2⟩ := hvb j hlt
    refine ix_b hlt (ld1_r (hkd.row' ra) a1 ?_)
    refine ix_b hlt (ld1_r (hkd.row' rb) b1 ?_)
    have hvb' := (b2.kp' hkd).toVs
    rw [← hfg j hlt] at hvb'
    refine sameBytes_ok (a2.kp' hkd).toVs hvb' fun w2 hk2 => ?_
    simp only [e_fd, e_nck, e_pkt, e_pkf, e_gdtt, e_gdtf, e_gdft, e_gdff, e_ift, e_iff, e_not, e_ln, e_lnT, e_cp, e_cvi, e_ex20, e_ex21, e_ex30, e_ex31, e_ex32, e_add, e_sub, e_mul, e_quo, e_rem, e_and, e_or, e_xor, e_shl, e_shr, e_eql, e_neq, e_lss, e_leq, e_gtr, e_geq, e_beq, e_bne, e_peq1, e_peq2, e_pne1, e_pne2, e_zeq1, e_zeq2, e_zne1, e_zne2, e_feq1, e_fne1, e_feq2, e_fne2, e_seq, e_sne, e_ta1, e_ta2, Nat.zero_add, Nat.add_zero, Bool.not_true, Bool.not_false, Bool.not_true]
    unfold s27_p3
    simp only [e_fd, e_nck, e_pkt, e_pkf, e_gdtt, e_gdtf, e_gdft, e_gdff, e_ift, e_iff, e_not, e_ln, e_lnT, e_cp, e_cvi, e_ex20, e_ex21, e_ex30, e_ex31, e_ex32, e_add, e_sub, e_mul, e_quo, e_rem, e_and, e_or, e_xor, e_shl, e_shr, e_eql, e_neq, e_lss, e_leq, e_gtr, e_geq, e_beq, e_bne, e_peq1, e_peq2, e_pne1, e_pne2, e_zeq1, e_zeq2, e_zne1, e_zne2, e_feq1, e_fne1, e_feq2, e_fne2, e_seq, e_sne, e_ta1, e_ta2, Nat.zero_add, Nat.add_zero, Bool.not_true, Bool.not_false]
    unfold s27_p2
    simp only [e_fd, e_nck, e_pkt, e_pkf, e_gdtt, e_gdtf, e_gdft, e_gdff, e_ift, e_iff, e_not, e_ln, e_lnT, e_cp, e_cvi, e_ex20, e_ex21, e_ex30, e_ex31, e_ex32, e_add, e_sub, e_mul, e_quo, e_rem, e_and, e_or, e_xor, e_shl, e_shr, e_eql, e_neq, e_lss, e_leq, e_gtr, e_geq, e_beq, e_bne, e_peq1, e_peq2, e_pne1, e_pne2, e_zeq1, e_zeq2, e_zne1, e_zne2, e_feq1, e_fne1, e_feq2, e_fne2, e_seq, e_sne, e_ta1, e_ta2, Nat.zero_add, Nat.add_zero, Bool.not_true, Bool.not_false]
    rw [wrap64_id (by omega) (by omega)]
    exact ⟨12 - (j + 1), by omega, j + 1, by omega, rfl, by simp, hkd.trans hk2⟩
  · have hlt' : ¬ (j : Int) < 12 := by omega
    simp only [hlt', decide_false, e_fd, e_nck, e_pkt, e_pkf, e_gdtt, e_gdtf, e_gdft, e_gdff, e_ift, e_iff, e_not, e_ln, e_lnT, e_cp, e_cvi, e_ex20, e_ex21, e_ex30, e_ex31, e_ex32, e_add, e_sub, e_mul, e_quo, e_rem, e_and, e_or, e_xor, e_shl, e_shr, e_eql, e_neq, e_lss, e_leq, e_gtr, e_geq, e_beq, e_bne, e_peq1, e_peq2, e_pne1, e_pne2, e_zeq1, e_zeq2, e_zne1, e_zne2, e_feq1, e_fne1, e_feq2, e_fne2, e_seq, e_sne, e_ta1, e_ta2, Nat.zero_add, Nat.add_zero, Bool.not_true, Bool.not_false]
    exact hK w1 hk1
end
end Go.Proofs.Qxb6500895a
