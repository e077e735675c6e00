import Derived.Test.Qxb6500895aD15
namespace Go.Proofs.Qxb6500895a
open Go.Sh Go.RowKit
set_option linter.unusedVariables false
set_option linter.unusedSimpArgs false

theorem add_add (a : Addr) (x y : Nat) : (a.add x).add y = a.add (x + y) := by
  cases a
  by_cases hx : x = 0 <;> by_cases hy : y = 0 <;> simp [Addr.add, hx, hy, Nat.add_assoc]
theorem add_0 (a : Addr) : a.add 0 = a := by
  cases a; simp [Addr.add]
section
variable {W w : World} {v : Value} {xs : List Op} {K : Value → World → Prop}
theorem Scr.pre {h : Nat} (hs : Scr W v xs) (hh : h ≤ xs.length) (hK : ∀ v', Scr W v' (xs.take h) → K v' w) : sls 8 v none (some (I (h : Nat))) K w := by
  rcases hs with ⟨rfl, rfl⟩ | ⟨a, cap, rfl, hc, hl, hs⟩
  · have : h = 0 := by simpa using hh
    subst this
    exact ⟨⟨by omega, by omega, by omega⟩, hK _ (.inl ⟨rfl, rfl⟩)⟩
  · refine ⟨⟨by omega, by omega, by omega⟩, ?_⟩
    have e1 : (if cap = ((0 : Nat) : Int).toNat then (some a) else (some a).map (·.add (((0 : Nat) : Int).toNat * 8))) = some a := by
      split
      · rfl
      · show some (a.add (0 * 8)) = _; rw [Nat.zero_mul, add_0]
    rw [e1]
    have e2 : ((h : Int)).toNat - ((0 : Nat) : Int).toNat = h := by omega
    have e3 : cap - ((0 : Nat) : Int).toNat = cap := by omega
    rw [e2, e3]
    have hlen : (xs.take h).length = h := by rw [List.length_take]; omega
    refine hK _ (.inr ⟨a, cap, by rw [hlen], by omega, by omega, fun j hj => ?_⟩)
    rw [hlen] at hj
    obtain ⟨b, o, cs, q1, q2, q3⟩ := hs j (by omega)
    exact ⟨b, o, cs, q1, q2, by rw [List.getElem_take]; exact q3⟩
theorem Scr.post {h : Nat} (hs : Scr W v xs) (hh : h ≤ xs.length) (hK : ∀ v', Scr W v' (xs.drop h) → K v' w) : sls 8 v (some (I (h : Nat))) none K w := by
  rcases hs with ⟨rfl, rfl⟩ | ⟨a, cap, rfl, hc, hl, hs⟩
  · have : h = 0 := by simpa using hh
    subst this
    exact ⟨⟨by omega, by omega, by omega⟩, hK _ (.inl ⟨rfl, rfl⟩)⟩
  · refine ⟨⟨by omega, by omega, by omega⟩, ?_⟩
    have e0 : ((h : Int)).toNat = h := by omega
    have e2 : ((xs.length : Nat) : Int).toNat - h = xs.length - h := by omega
    rw [e0, e2]
    have hlen : (xs.drop h).length = xs.length - h := by rw [List.length_drop]
    by_cases hch : cap = h
    · rw [if_pos hch]
      refine hK _ (.inr ⟨a, cap - h, by rw [hlen], by omega, by omega, fun j hj => ?_⟩)
      rw [hlen] at hj; omega
    · rw [if_neg hch]
      refine hK _ (.inr ⟨a.add (h * 8), cap - h, by rw [hlen]; rfl, by omega, by omega, fun j hj => ?_⟩)
      rw [hlen] at hj
      obtain ⟨b, o, cs, q1, q2, q3⟩ := hs (h + j) (by omega)
      exact ⟨b, o, cs, by rw [add_add, ← Nat.add_mul]; exact q1, q2, by rw [List.getElem_drop]; exact q3⟩
end

/-- the states of a script -/
def runS (s : DS) (ops : List Op) : DS := ops.foldl (fun s op => (playS s op).2.2) s
theorem runS_succ {s : DS} {ops : List Op} {j : Nat} (hj : j < ops.length) : runS s (ops.take (j + 1)) = (playS (runS s (ops.take j)) ops[j]).2.2 := by
  unfold runS
  rw [List.take_succ_eq_append_getElem hj, List.foldl_append]
  rfl

def one (v : Value) : List Value := [v]
theorem one_len (v : Value) : (one v).length = 1 := rfl

/-- the blocks that a law's loop may write -/
def Q8 (d c : Nat) (m mc : Mem) (o1 o2 : Option Nat) (b : Nat) : Prop := Own d m b ∨ Own c mc b ∨ o1 = some b ∨ o2 = some b

/-- the state of the second and the third loop -/
structure St8 (W w : World) (d c : Nat) (m mc : Mem) (s1 s2 : DS) (o1 o2 : Option Nat) (cv dv : Value) (codes : List Int) (vals : List Value) (s : DS) (ops : List Op) : Prop where
  two : Two W w d c m mc s1 s2
  slc : Sl i1 1 w 35 o1 cv codes
  sld : Sl one 1 w 29 o2 dv vals
  o2f : ∀ b, o2 = some b → ¬ Own d m b ∧ ¬ Own c mc b ∧ W.heap.size ≤ b
  o1f : ∀ b, o1 = some b → W.heap.size ≤ b
  len : codes.length ≤ ops.length
  vlen : vals.length = codes.length
  code : ∀ i (h : i < ops.length) (h' : i < codes.length), codes[i] = (playS (runS s (ops.take i)) ops[i]).1
  data : ∀ i (h : i < ops.length) (h' : i < vals.length), VsP (Q8 d c m mc o1 o2) U8 w vals[i] (playS (runS s (ops.take i)) ops[i]).2.1

section
variable {W w w' : World} {d c : Nat} {m m' mc mc' : Mem} {s1 s2 s1' s2' s : DS} {o1 o2 : Option Nat} {cv dv v : Value} {codes : List Int} {vals : List Value} {ops xs : List Op} {K : Value → World → Prop}

theorem St8.kp' (h : St8 W w d c m mc s1 s2 o1 o2 cv dv codes vals s ops) (hk : Kp (fun _ => False) w w') : St8 W w' d c m mc s1 s2 o1 o2 cv dv codes vals s ops :=
  ⟨h.two.kp' hk, h.slc.kp' hk, h.sld.kp' hk, h.o2f, h.o1f, h.len, h.vlen, h.code, fun i h1 h2 => (h.data i h1 h2).mv hk (fun _ _ q => q.elim) (fun _ q => .inl q)⟩
theorem St8.n1 (h : St8 W w d c m mc s1 s2 o1 o2 cv dv codes vals s ops) {b : Nat} (hb : o1 = some b) : ¬ Own d m b ∧ ¬ Own c mc b := by
  obtain ⟨l, hr⟩ := h.slc.row hb
  exact ⟨h.two.a.dk.ntag hr (by decide), h.two.b.dk.ntag hr (by decide)⟩
theorem St8.stp1 (h : St8 W w d c m mc s1 s2 o1 o2 cv dv codes vals s ops) (h' : Two W w' d c m' mc s1' s2) (st : Stp w w' d m m') : St8 W w' d c m' mc s1' s2 o1 o2 cv dv codes vals s ops :=
  ⟨h', h.slc.kp st.kp (fun b hb => (h.n1 hb).1), h.sld.kp st.kp (fun b hb => (h.o2f b hb).1), fun b hb => ⟨fun q => (st.own b q).elim (h.o2f b hb).1 (fun q => by obtain ⟨l, hr⟩ := h.sld.row hb; have := hr.lt; omega), (h.o2f b hb).2⟩, h.o1f, h.len, h.vlen, h.code,
    fun i h1 h2 => (h.data i h1 h2).mv st.kp (fun _ _ q => .inl q) (fun b q => by
      rcases q with q | q | q | q
      · exact (st.own b q).elim (fun q => .inl (.inl q)) .inr
      · exact .inl (.inr (.inl q))
      · exact .inl (.inr (.inr (.inl q)))
      · exact .inl (.inr (.inr (.inr q))))⟩
theorem St8.stp2 (h : St8 W w d c m mc s1 s2 o1 o2 cv dv codes vals s ops) (h' : Two W w' d c m mc' s1 s2') (st : Stp w w' c mc mc') : St8 W w' d c m mc' s1 s2' o1 o2 cv dv codes vals s ops :=
  ⟨h', h.slc.kp st.kp (fun b hb => (h.n1 hb).2), h.sld.kp st.kp (fun b hb => (h.o2f b hb).2.1), fun b hb => ⟨(h.o2f b hb).1, fun q => (st.own b q).elim (h.o2f b hb).2.1 (fun q => by obtain ⟨l, hr⟩ := h.sld.row hb; have := hr.lt; omega), (h.o2f b hb).2.2⟩, h.o1f, h.len, h.vlen, h.code,
    fun i h1 h2 => (h.data i h1 h2).mv st.kp (fun _ _ q => .inr (.inl q)) (fun b q => by
      rcases q with q | q | q | q
      · exact .inl (.inl q)
      · exact (st.own b q).elim (fun q => .inl (.inr (.inl q))) .inr
      · exact .inl (.inr (.inr (.inl q)))
      · exact .inl (.inr (.inr (.inr q))))⟩

abbrev K8 (W : World) : Value → World → Prop := fun r w' => r = .bool true ∧ Below W.heap.size W w'

/-- the last loop -/
theorem law8_third {t77 : Value} (hs : Scr W t77 ops) (hsm : ops.length ≤ 65536 ∧ ∀ x ∈ ops, x.data.length ≤ 65536 ∧ x.keep.length ≤ 65536) (h : St8 W w d c m mc (runS s ops) s o1 o2 cv dv codes vals s ops) (hcl : codes.length = ops.length) :
    s8_p3 (K8 W) (P d 0) (P c 0) cv dv t77 (I ops.length) (I 0) w := by
  refine ⟨fun n l w' => ∃ (j : Nat) (mc : Mem), j ≤ ops.length ∧ n = ops.length - j ∧ l = [P d 0, P c 0, cv, dv, t77, I ops.length, I j] ∧ St8 W w' d c m mc (runS s ops) (runS s (ops.take j)) o1 o2 cv dv codes vals s ops,
    ops.length, ⟨0, mc, by omega, by omega, rfl, h⟩, ?_⟩
  clear h
  rintro n l w ⟨j, mc, hj, rfl, rfl, h⟩
  rw [s8_p3_Fe]
  unfold s8_p2
  simp only [e_fd, e_nck, e_pkt, e_pkf, e_gdtt, e_gdtf, e_gdft, e_gdff, e_ift, e_iff, e_not, e_ln, e_lnT, e_cp, e_cvi, e_ex20, e_ex21, e_ex30, e_ex31, e_ex32, e_add, e_sub, e_mul, e_quo, e_rem, e_and, e_or, e_xor, e_shl, e_shr, e_eql, e_neq, e_lss, e_leq, e_gtr, e_geq, e_beq, e_bne, e_peq1, e_peq2, e_pne1, e_pne2, e_zeq1, e_zeq2, e_zne1, e_zne2, e_feq1, e_fne1, e_feq2, e_fne2, e_seq, e_sne, e_ta1, e_ta2, Nat.zero_add, Nat.add_zero, Bool.not_true, Bool.not_false]
  by_cases hlt : j < ops.length
  · have hlt' : (j : Int) < (ops.length : Int) := by omega
    simp only [hlt', decide_true, e_fd, e_nck, e_pkt, e_pkf, e_gdtt, e_gdtf, e_gdft, e_gdff, e_ift, e_iff, e_not, e_ln, e_lnT, e_cp, e_cvi, e_ex20, e_ex21, e_ex30, e_ex31, e_ex32, e_add, e_sub, e_mul, e_quo, e_rem, e_and, e_or, e_xor, e_shl, e_shr, e_eql, e_neq, e_lss, e_leq, e_gtr, e_geq, e_beq, e_bne, e_peq1, e_peq2, e_pne1, e_pne2, e_zeq1, e_zeq2, e_zne1, e_zne2, e_feq1, e_fne1, e_feq2, e_fne2, e_seq, e_sne, e_ta1, e_ta2, Nat.zero_add, Nat.add_zero, Bool.not_true, Bool.not_false]
    obtain ⟨hdl, hkl⟩ := hsm.2 _ (List.getElem_mem hlt)
    refine hs.take h.two.a.bel hlt hkl fun w1 ob odv kvo hob r1 hk1 hov hdv hkv sdv skv => ?_
    have h1 := h.kp' hk1
    refine ldn_r r1 (show 0 + 8 ≤ 8 by decide) ?_
    refine h1.two.play2 (hov.toQ (fun b q => h1.two.b.far b q)) fun w2 m2 bv two2 st2 hd2 => ?_
    have h2 := h1.stp2 two2 st2
    have hbv := hd2.toVs h1.two.b.dk
    simp only [e_fd, e_nck, e_pkt, e_pkf, e_gdtt, e_gdtf, e_gdft, e_gdff, e_ift, e_iff, e_not, e_ln, e_lnT, e_cp, e_cvi, e_ex20, e_ex21, e_ex30, e_ex31, e_ex32, e_add, e_sub, e_mul, e_quo, e_rem, e_and, e_or, e_xor, e_shl, e_shr, e_eql, e_neq, e_lss, e_leq, e_gtr, e_geq, e_beq, e_bne, e_peq1, e_peq2, e_pne1, e_pne2, e_zeq1, e_zeq2, e_zne1, e_zne2, e_feq1, e_fne1, e_feq2, e_fne2, e_seq, e_sne, e_ta1, e_ta2, Nat.zero_add, Nat.add_zero, Bool.not_true, Bool.not_false]
    refine h2.slc.ix i1_len (i := j) (by omega) fun b1 l1 hb1 hr1 hj1 hl1 _ => ?_
    have hce := h2.code j hlt (by omega)
    refine ld1_r hr1 (v := I codes[j]) (by have := hj1 0 (by decide); rw [Nat.add_zero] at this; rw [this]; rfl) ?_
    have e : ((playS (runS s (ops.take j)) ops[j]).1 != codes[j]) = false := by rw [hce]; simp
    simp only [e, e_fd, e_nck, e_pkt, e_pkf, e_gdtt, e_gdtf, e_gdft, e_gdff, e_ift, e_iff, e_not, e_ln, e_lnT, e_cp, e_cvi, e_ex20, e_ex21, e_ex30, e_ex31, e_ex32, e_add, e_sub, e_mul, e_quo, e_rem, e_and, e_or, e_xor, e_shl, e_shr, e_eql, e_neq, e_lss, e_leq, e_gtr, e_geq, e_beq, e_bne, e_peq1, e_peq2, e_pne1, e_pne2, e_zeq1, e_zeq2, e_zne1, e_zne2, e_feq1, e_fne1, e_feq2, e_fne2, e_seq, e_sne, e_ta1, e_ta2, Nat.zero_add, Nat.add_zero, Bool.not_true, Bool.not_false]
    have hvl := h2.vlen
    refine h2.sld.ix one_len (i := j) (by omega) fun b2 l2 hb2 hr2 hj2 hl2 _ => ?_
    refine ld1_r hr2 (v := vals[j]) (by have := hj2 0 (by decide); rw [Nat.add_zero] at this; rw [this]; rfl) ?_
    refine sameBytes_ok hbv (h2.data j hlt (by omega)).1 fun w3 hk3 => ?_
    simp only [Bool.not_true, e_fd, e_nck, e_pkt, e_pkf, e_gdtt, e_gdtf, e_gdft, e_gdff, e_ift, e_iff, e_not, e_ln, e_lnT, e_cp, e_cvi, e_ex20, e_ex21, e_ex30, e_ex31, e_ex32, e_add, e_sub, e_mul, e_quo, e_rem, e_and, e_or, e_xor, e_shl, e_shr, e_eql, e_neq, e_lss, e_leq, e_gtr, e_geq, e_beq, e_bne, e_peq1, e_peq2, e_pne1, e_pne2, e_zeq1, e_zeq2, e_zne1, e_zne2, e_feq1, e_fne1, e_feq2, e_fne2, e_seq, e_sne, e_ta1, e_ta2, Nat.zero_add, Nat.add_zero, Bool.not_true, Bool.not_false]
    rw [wrap64_id (by omega) (by omega)]
    refine ⟨ops.length - (j + 1), by omega, j + 1, m2, by omega, rfl, by simp, ?_⟩
    rw [runS_succ hlt]
    exact h2.kp' hk3
  · have hlt' : ¬ (j : Int) < (ops.length : Int) := by omega
    simp only [hlt', decide_false, e_fd, e_nck, e_pkt, e_pkf, e_gdtt, e_gdtf, e_gdft, e_gdff, e_ift, e_iff, e_not, e_ln, e_lnT, e_cp, e_cvi, e_ex20, e_ex21, e_ex30, e_ex31, e_ex32, e_add, e_sub, e_mul, e_quo, e_rem, e_and, e_or, e_xor, e_shl, e_shr, e_eql, e_neq, e_lss, e_leq, e_gtr, e_geq, e_beq, e_bne, e_peq1, e_peq2, e_pne1, e_pne2, e_zeq1, e_zeq2, e_zne1, e_zne2, e_feq1, e_fne1, e_feq2, e_fne2, e_seq, e_sne, e_ta1, e_ta2, Nat.zero_add, Nat.add_zero, Bool.not_true, Bool.not_false]
    have ej : ops.take j = ops := List.take_of_length_le (by omega)
    rw [ej] at h
    unfold s8_p1
    refine look_ok (Q := fun _ => False) h.two.b.dk (fun _ q => q.elim) fun w1 v1 hk1 hv1 => ?_
    refine look_ok (Q := fun _ => False) (h.two.a.dk.kp' hk1) (fun _ q => q.elim) fun w2 v2 hk2 hv2 => ?_
    refine same_ok (hv1.kp' hk2) hv2 fun w3 hk3 => ?_
    exact ⟨rfl, (((h.kp' hk1).kp' hk2).kp' hk3).two.a.bel⟩

/-- the second loop -/
theorem law8_second {t49 : Value} {t8 hf : Nat} {cl8 : List Value} (hsv : Scr W v xs) (hhf : hf ≤ xs.length) (hops : xs.drop hf = ops) (hs : Scr W t49 ops) (hsm : ops.length ≤ 65536 ∧ ∀ x ∈ ops, x.data.length ≤ 65536 ∧ x.keep.length ≤ 65536)
    (h : Two W w d c m mc s s) (r8 : Row w t8 45 cl8) (hc8 : cl8.length = 13) (hvw : Vw (Q8 d c m mc none none) w (.agg cl8.toArray) s) :
    s8_p7 (K8 W) v (P d 0) (I (hf : Nat)) (P c 0) (P t8 0) nilS nilS t49 (I ops.length) (I 0) w := by
  refine ⟨fun n l w' => ∃ (j : Nat) (m : Mem) (o1 o2 : Option Nat) (cv dv : Value) (codes : List Int) (vals : List Value), j ≤ ops.length ∧ n = ops.length - j ∧ l = [v, P d 0, I (hf : Nat), P c 0, P t8 0, cv, dv, t49, I ops.length, I j] ∧ codes.length = j ∧ St8 W w' d c m mc (runS s (ops.take j)) s o1 o2 cv dv codes vals s ops ∧ Row w' t8 45 cl8 ∧ Vw (Q8 d c m mc o1 o2) w' (.agg cl8.toArray) s,
    ops.length, ⟨0, m, none, none, nilS, nilS, [], [], by omega, by omega, rfl, rfl, ⟨h, ⟨rfl, rfl⟩, ⟨rfl, rfl⟩, fun b hb => (by cases hb), fun b hb => (by cases hb), by simp, rfl, fun i _ h' => by simp at h', fun i _ h' => by simp at h'⟩, r8, hvw⟩, ?_⟩
  clear h r8 hvw
  rintro n l w ⟨j, m, o1, o2, cv, dv, codes, vals, hj, rfl, rfl, hcl, h, r8, hvw⟩
  rw [s8_p7_Fe]
  unfold s8_p6
  simp only [e_fd, e_nck, e_pkt, e_pkf, e_gdtt, e_gdtf, e_gdft, e_gdff, e_ift, e_iff, e_not, e_ln, e_lnT, e_cp, e_cvi, e_ex20, e_ex21, e_ex30, e_ex31, e_ex32, e_add, e_sub, e_mul, e_quo, e_rem, e_and, e_or, e_xor, e_shl, e_shr, e_eql, e_neq, e_lss, e_leq, e_gtr, e_geq, e_beq, e_bne, e_peq1, e_peq2, e_pne1, e_pne2, e_zeq1, e_zeq2, e_zne1, e_zne2, e_feq1, e_fne1, e_feq2, e_fne2, e_seq, e_sne, e_ta1, e_ta2, Nat.zero_add, Nat.add_zero, Bool.not_true, Bool.not_false]
  by_cases hlt : j < ops.length
  · have hlt' : (j : Int) < (ops.length : Int) := by omega
    simp only [hlt', decide_true, e_fd, e_nck, e_pkt, e_pkf, e_gdtt, e_gdtf, e_gdft, e_gdff, e_ift, e_iff, e_not, e_ln, e_lnT, e_cp, e_cvi, e_ex20, e_ex21, e_ex30, e_ex31, e_ex32, e_add, e_sub, e_mul, e_quo, e_rem, e_and, e_or, e_xor, e_shl, e_shr, e_eql, e_neq, e_lss, e_leq, e_gtr, e_geq, e_beq, e_bne, e_peq1, e_peq2, e_pne1, e_pne2, e_zeq1, e_zeq2, e_zne1, e_zne2, e_feq1, e_fne1, e_feq2, e_fne2, e_seq, e_sne, e_ta1, e_ta2, Nat.zero_add, Nat.add_zero, Bool.not_true, Bool.not_false]
    obtain ⟨hdl, hkl⟩ := hsm.2 _ (List.getElem_mem hlt)
    refine hs.take h.two.a.bel hlt hkl fun w1 ob odv kvo hob r1 hk1 hov hdv hkv sdv skv => ?_
    have h1 := h.kp' hk1
    refine ldn_r r1 (show 0 + 8 ≤ 8 by decide) ?_
    refine h1.two.play1 (hov.toQ (fun b q => h1.two.a.far b q)) fun w2 m2 bv two2 st2 hd2 => ?_
    have h2 := h1.stp1 two2 st2
    have r82 := st2.kp.row (hk1.row' r8) (h1.two.a.dk.ntag (hk1.row' r8) (by decide))
    have hvw2 : Vw (Q8 d c m2 mc o1 o2) w2 (.agg cl8.toArray) s := (hvw.kp' hk1).mv st2.kp (fun _ _ q => .inl q) (fun b q => by
      rcases q with q | q | q | q
      · exact (st2.own b q).elim (fun q => .inl (.inl q)) .inr
      · exact .inl (.inr (.inl q))
      · exact .inl (.inr (.inr (.inl q)))
      · exact .inl (.inr (.inr (.inr q))))
    have hbv := hd2.toVs h1.two.a.dk
    have hbvQ : VsP (Q8 d c m2 mc o1 o2) U8 w2 bv (playS (runS s (ops.take j)) ops[j]).2.1 := by
      refine ⟨hbv, fun b o cc h0 e q => ?_⟩
      obtain ⟨_, hq⟩ := hd2
      rcases hq with ⟨_, e', e''⟩ | ⟨_, b', e', rb, hbb, hnb⟩
      · rw [e''] at h0; simp at h0
      · rw [e'] at e
        cases e
        rcases q with q | q | q | q
        · exact hnb q
        · have := h1.two.b.dk.lt q; omega
        · obtain ⟨l, hr⟩ := h1.slc.row q; have := hr.lt; omega
        · obtain ⟨l, hr⟩ := h1.sld.row q; have := hr.lt; omega
    simp only [e_fd, e_nck, e_pkt, e_pkf, e_gdtt, e_gdtf, e_gdft, e_gdff, e_ift, e_iff, e_not, e_ln, e_lnT, e_cp, e_cvi, e_ex20, e_ex21, e_ex30, e_ex31, e_ex32, e_add, e_sub, e_mul, e_quo, e_rem, e_and, e_or, e_xor, e_shl, e_shr, e_eql, e_neq, e_lss, e_leq, e_gtr, e_geq, e_beq, e_bne, e_peq1, e_peq2, e_pne1, e_pne2, e_zeq1, e_zeq2, e_zne1, e_zne2, e_feq1, e_fne1, e_feq2, e_fne2, e_seq, e_sne, e_ta1, e_ta2, Nat.zero_add, Nat.add_zero, Bool.not_true, Bool.not_false]
    have hvl := h2.vlen
    have hW := h2.two.a.bel.size
    -- the code
    refine h2.slc.app i1_len rfl (playS (runS s (ops.take j)) ops[j]).1 rfl (by omega) (by omega) rfl fun w3 cv3 o13 hsl3 hk3 ho3 => ?_
    have hT3 : ∀ b, b < w2.heap.size → o1 = some b → Q8 d c m2 mc o1 o2 b := fun b _ q => .inr (.inr (.inl q))
    have hQ3 : ∀ b, Q8 d c m2 mc o13 o2 b → Q8 d c m2 mc o1 o2 b ∨ w2.heap.size ≤ b := by
      intro b q
      rcases q with q | q | q | q
      · exact .inl (.inl q)
      · exact .inl (.inr (.inl q))
      · rcases ho3 with e | ⟨b', e, hb'⟩
        · rw [e] at q; exact .inl (.inr (.inr (.inl q)))
        · rw [e] at q; cases q; exact .inr hb'
      · exact .inl (.inr (.inr (.inr q)))
    have two3 : Two W w3 d c m2 mc _ _ := h2.two.kp hk3 (fun b hb => ⟨(h2.n1 hb).1, (h2.n1 hb).2, h2.o1f b hb⟩)
    have r83 := hk3.row r82 (fun q => by obtain ⟨l, hr⟩ := h2.slc.row q; exact row_ne r82 hr (by decide) rfl)
    have hvw3 := hvw2.mv hk3 hT3 hQ3
    have hbv3 := hbvQ.mv hk3 hT3 hQ3
    have dat3 : Sl one 1 w3 29 o2 dv vals := h2.sld.kp hk3 (fun b hb q => by obtain ⟨l, hr⟩ := h2.sld.row hb; obtain ⟨l', hr'⟩ := h2.slc.row q; exact row_ne hr hr' (by decide) rfl)
    have s3 := hk3.size
    -- the bytes
    obtain ⟨ba, bn, bc, eb⟩ : ∃ a n cc, bv = .slice a n cc := by
      rcases hbv with ⟨q, _⟩ | ⟨a, cap, q, _⟩ | ⟨b, o, cap, q, _⟩
      · exact ⟨_, _, _, q⟩
      · exact ⟨_, _, _, q⟩
      · exact ⟨_, _, _, q⟩
    subst eb
    refine dat3.app one_len rfl (.slice ba bn bc) rfl (by omega) (by omega) rfl fun w4 dv4 o24 hsl4 hk4 ho4 => ?_
    have hT4 : ∀ b, b < w3.heap.size → o2 = some b → Q8 d c m2 mc o13 o2 b := fun b _ q => .inr (.inr (.inr q))
    have hQ4 : ∀ b, Q8 d c m2 mc o13 o24 b → Q8 d c m2 mc o13 o2 b ∨ w3.heap.size ≤ b := by
      intro b q
      rcases q with q | q | q | q
      · exact .inl (.inl q)
      · exact .inl (.inr (.inl q))
      · exact .inl (.inr (.inr (.inl q)))
      · rcases ho4 with e | ⟨b', e, hb'⟩
        · rw [e] at q; exact .inl (.inr (.inr (.inr q)))
        · rw [e] at q; cases q; exact .inr hb'
    have two4 : Two W w4 d c m2 mc _ _ := two3.kp hk4 (fun b hb => ⟨(h2.o2f b hb).1, (h2.o2f b hb).2.1, (h2.o2f b hb).2.2⟩)
    have r84 := hk4.row r83 (fun q => by obtain ⟨l, hr⟩ := dat3.row q; exact row_ne r83 hr (by decide) rfl)
    have sl4 : Sl i1 1 w4 35 o13 cv3 (codes ++ [(playS (runS s (ops.take j)) ops[j]).1]) := hsl3.kp hk4 (fun b hb q => by obtain ⟨l, hr⟩ := hsl3.row hb; obtain ⟨l', hr'⟩ := dat3.row q; exact row_ne hr hr' (by decide) rfl)
    try simp only [e_fd, e_nck, e_pkt, e_pkf, e_gdtt, e_gdtf, e_gdft, e_gdff, e_ift, e_iff, e_not, e_ln, e_lnT, e_cp, e_cvi, e_ex20, e_ex21, e_ex30, e_ex31, e_ex32, e_add, e_sub, e_mul, e_quo, e_rem, e_and, e_or, e_xor, e_shl, e_shr, e_eql, e_neq, e_lss, e_leq, e_gtr, e_geq, e_beq, e_bne, e_peq1, e_peq2, e_pne1, e_pne2, e_zeq1, e_zeq2, e_zne1, e_zne2, e_feq1, e_fne1, e_feq2, e_fne2, e_seq, e_sne, e_ta1, e_ta2, Nat.zero_add, Nat.add_zero, Bool.not_true, Bool.not_false]
    rw [wrap64_id (by omega) (by omega)]
    refine ⟨ops.length - (j + 1), by omega, j + 1, m2, o13, o24, cv3, dv4, codes ++ [(playS (runS s (ops.take j)) ops[j]).1], vals ++ [.slice ba bn bc], by omega, rfl, by simp, by simp [hcl], ⟨by rw [runS_succ hlt]; exact two4, sl4, hsl4, fun b hb => ?_, fun b hb => ?_, by simp; omega, by simp [hvl], fun i hi hi' => ?_, fun i hi hi' => ?_⟩, r84, hvw3.mv hk4 hT4 hQ4⟩
    · rcases ho4 with e | ⟨b', e, hb'⟩
      · rw [e] at hb; exact h2.o2f b hb
      · rw [e] at hb; cases hb
        refine ⟨fun q => ?_, fun q => ?_, by omega⟩
        · have := two3.a.dk.lt q; omega
        · have := two3.b.dk.lt q; omega
    · rcases ho3 with e | ⟨b', e, hb'⟩
      · rw [e] at hb; exact h2.o1f b hb
      · rw [e] at hb; cases hb; omega
    · rw [List.getElem_append]
      split
      · rename_i q; exact h2.code i hi q
      · rename_i q
        have : i = j := by rw [List.length_append, List.length_singleton] at hi'; omega
        subst this
        simp
    · rw [List.getElem_append]
      split
      · rename_i q; exact ((h2.data i hi q).mv hk3 hT3 hQ3).mv hk4 hT4 hQ4
      · rename_i q
        have : i = j := by rw [List.length_append, List.length_singleton] at hi'; omega
        subst this
        simp only [List.getElem_singleton]
        exact hbv3.mv hk4 hT4 hQ4
  · have hlt' : ¬ (j : Int) < (ops.length : Int) := by omega
    simp only [hlt', decide_false, e_fd, e_nck, e_pkt, e_pkf, e_gdtt, e_gdtf, e_gdft, e_gdff, e_ift, e_iff, e_not, e_ln, e_lnT, e_cp, e_cvi, e_ex20, e_ex21, e_ex30, e_ex31, e_ex32, e_add, e_sub, e_mul, e_quo, e_rem, e_and, e_or, e_xor, e_shl, e_shr, e_eql, e_neq, e_lss, e_leq, e_gtr, e_geq, e_beq, e_bne, e_peq1, e_peq2, e_pne1, e_pne2, e_zeq1, e_zeq2, e_zne1, e_zne2, e_feq1, e_fne1, e_feq2, e_fne2, e_seq, e_sne, e_ta1, e_ta2, Nat.zero_add, Nat.add_zero, Bool.not_true, Bool.not_false]
    have ej : ops.take j = ops := List.take_of_length_le (by omega)
    rw [ej] at h
    unfold s8_p5 s8_p5_d
    have hkd : Kp (fun _ => False) w (drw w) := kp_drw
    have hd := h.kp' hkd
    refine ldn_r r8.drw (by omega) ?_
    have e13 : (cl8.drop 0).take 13 = cl8 := by rw [List.drop_zero, List.take_of_length_le (by omega)]
    rw [e13]
    refine look_ok (Q := fun _ => False) hd.two.b.dk (fun _ q => q.elim) fun w2 v2 hk2 hv2 => ⟨hk2.below', ?_⟩
    refine same_ok ((hvw.kp' hkd).kp' hk2) hv2 fun w3 hk3 => ?_
    simp only [Bool.not_true, e_fd, e_nck, e_pkt, e_pkf, e_gdtt, e_gdtf, e_gdft, e_gdff, e_ift, e_iff, e_not, e_ln, e_lnT, e_cp, e_cvi, e_ex20, e_ex21, e_ex30, e_ex31, e_ex32, e_add, e_sub, e_mul, e_quo, e_rem, e_and, e_or, e_xor, e_shl, e_shr, e_eql, e_neq, e_lss, e_leq, e_gtr, e_geq, e_beq, e_bne, e_peq1, e_peq2, e_pne1, e_pne2, e_zeq1, e_zeq2, e_zne1, e_zne2, e_feq1, e_fne1, e_feq2, e_fne2, e_seq, e_sne, e_ta1, e_ta2, Nat.zero_add, Nat.add_zero, Bool.not_true, Bool.not_false]
    unfold s8_p4
    simp only [e_fd, e_nck, e_pkt, e_pkf, e_gdtt, e_gdtf, e_gdft, e_gdff, e_ift, e_iff, e_not, e_ln, e_lnT, e_cp, e_cvi, e_ex20, e_ex21, e_ex30, e_ex31, e_ex32, e_add, e_sub, e_mul, e_quo, e_rem, e_and, e_or, e_xor, e_shl, e_shr, e_eql, e_neq, e_lss, e_leq, e_gtr, e_geq, e_beq, e_bne, e_peq1, e_peq2, e_pne1, e_pne2, e_zeq1, e_zeq2, e_zne1, e_zne2, e_feq1, e_fne1, e_feq2, e_fne2, e_seq, e_sne, e_ta1, e_ta2, Nat.zero_add, Nat.add_zero, Bool.not_true, Bool.not_false]
    refine hsv.post hhf fun v' hv' => ?_
    rw [hops] at hv'
    refine hv'.ln ?_
    exact law8_third hv' hsm ((hd.kp' hk2).kp' hk3) (by omega)

theorem law8_mid {hf : Nat} (hsv : Scr W v xs) (hhf : hf ≤ xs.length) (hsm : xs.length ≤ 65536 ∧ ∀ x ∈ xs, x.data.length ≤ 65536 ∧ x.keep.length ≤ 65536) (h : Base W w d m s) : s8_p10 (K8 W) v (P d 0) (I (hf : Nat)) w := by
  unfold s8_p10
  refine clone_ok h.dk fun w1 c mc hk1 hc hcf => ?_
  have h1 := h.kp' hk1
  have s1 := hk1.size
  have hW := h.bel.size
  have two1 : Two W w1 d c m mc s s := ⟨h1, ⟨hc, fun b q => Nat.le_trans hW (hcf b q), h1.bel⟩, fun b q1 q2 => by have := h.dk.lt q1; have := hcf b q2; omega⟩
  refine look_ok (Q := Q8 d c m mc none none) hc (fun b q => ?_) fun w2 vv hk2 hvv => ?_
  · rcases q with q | q | q | q
    · exact h1.dk.lt q
    · exact hc.lt q
    · cases q
    · cases q
  refine nw_r fun w3 r3 hk3 hz3 => ?_
  obtain ⟨ka, da, na, fa, rfl, v1, v2, v3, v4⟩ := hvv
  refine stn_r r3 rfl (show 0 + 13 ≤ 13 by decide) (show ([.bool s.off, I s.left, ka, I s.torn, I s.at_, da, I s.rd, I s.wr, I s.fl, I s.cr, I s.rs, na, fa] : List Value).all scal = true by simp only [List.all_cons, v1.sc, v2.sc, v3.sc, v4.sc]; rfl) fun w4 r4 hk4 hz4 => ?_
  have r4' : Row w4 w2.heap.size 45 [.bool s.off, I s.left, ka, I s.torn, I s.at_, da, I s.rd, I s.wr, I s.fl, I s.cr, I s.rs, na, fa] := r4
  have hk24 : Kp (fun _ => False) w2 w4 := hk3.then hk4 (fun k hk (q : k = _) => by omega)
  have hvw : Vw (Q8 d c m mc none none) w4 (.agg [.bool s.off, I s.left, ka, I s.torn, I s.at_, da, I s.rd, I s.wr, I s.fl, I s.cr, I s.rs, na, fa].toArray) s := (show Vw (Q8 d c m mc none none) w2 _ s from ⟨ka, da, na, fa, rfl, v1, v2, v3, v4⟩).kp' hk24
  have two4 := (two1.kp' hk2).kp' hk24
  unfold s8_p9 s8_p9_d
  have hkd : Kp (fun _ => False) w4 (drw w4) := kp_drw
  refine ldn_r r4'.drw (show 0 + 13 ≤ 13 by decide) ?_
  refine look_ok (Q := fun _ => False) (two4.a.dk.kp' hkd) (fun _ q => q.elim) fun w5 v5 hk5 hv5 => ⟨hk5.below', ?_⟩
  refine same_ok ((hvw.kp' hkd).kp' hk5) hv5 fun w6 hk6 => ?_
  simp only [Bool.not_true, e_fd, e_nck, e_pkt, e_pkf, e_gdtt, e_gdtf, e_gdft, e_gdff, e_ift, e_iff, e_not, e_ln, e_lnT, e_cp, e_cvi, e_ex20, e_ex21, e_ex30, e_ex31, e_ex32, e_add, e_sub, e_mul, e_quo, e_rem, e_and, e_or, e_xor, e_shl, e_shr, e_eql, e_neq, e_lss, e_leq, e_gtr, e_geq, e_beq, e_bne, e_peq1, e_peq2, e_pne1, e_pne2, e_zeq1, e_zeq2, e_zne1, e_zne2, e_feq1, e_fne1, e_feq2, e_fne2, e_seq, e_sne, e_ta1, e_ta2, Nat.zero_add, Nat.add_zero, Bool.not_true, Bool.not_false]
  unfold s8_p8
  simp only [e_fd, e_nck, e_pkt, e_pkf, e_gdtt, e_gdtf, e_gdft, e_gdff, e_ift, e_iff, e_not, e_ln, e_lnT, e_cp, e_cvi, e_ex20, e_ex21, e_ex30, e_ex31, e_ex32, e_add, e_sub, e_mul, e_quo, e_rem, e_and, e_or, e_xor, e_shl, e_shr, e_eql, e_neq, e_lss, e_leq, e_gtr, e_geq, e_beq, e_bne, e_peq1, e_peq2, e_pne1, e_pne2, e_zeq1, e_zeq2, e_zne1, e_zne2, e_feq1, e_fne1, e_feq2, e_fne2, e_seq, e_sne, e_ta1, e_ta2, Nat.zero_add, Nat.add_zero, Bool.not_true, Bool.not_false]
  refine hsv.post hhf fun v' hv' => ?_
  refine hv'.ln ?_
  have hk46 := (hkd.trans hk5).trans hk6
  exact law8_second hsv hhf rfl hv' ⟨by rw [List.length_drop]; omega, fun x hx => hsm.2 x (List.mem_of_mem_drop hx)⟩ (two4.kp' hk46) (hk46.row' r4') rfl (hvw.kp' hk46)

theorem law8_first {hf : Nat} {t28 : Value} (hsv : Scr W v xs) (hhf : hf ≤ xs.length) (hsm : xs.length ≤ 65536 ∧ ∀ x ∈ xs, x.data.length ≤ 65536 ∧ x.keep.length ≤ 65536) (hs : Scr W t28 ops) (hops : ops = xs.take hf) (h : Base W w d m s) :
    s8_p12 (K8 W) v (P d 0) (I (hf : Nat)) t28 (I ops.length) (I 0) w := by
  have hol : ops.length ≤ 65536 := by rw [hops, List.length_take]; omega
  refine ⟨fun n l w' => ∃ (j : Nat) (m : Mem) (s : DS), j ≤ ops.length ∧ n = ops.length - j ∧ l = [v, P d 0, I (hf : Nat), t28, I ops.length, I j] ∧ Base W w' d m s,
    ops.length, ⟨0, m, s, by omega, by omega, rfl, h⟩, ?_⟩
  clear h
  rintro n l w ⟨j, m, s, hj, rfl, rfl, h⟩
  rw [s8_p12_Fe]
  unfold s8_p11
  simp only [e_fd, e_nck, e_pkt, e_pkf, e_gdtt, e_gdtf, e_gdft, e_gdff, e_ift, e_iff, e_not, e_ln, e_lnT, e_cp, e_cvi, e_ex20, e_ex21, e_ex30, e_ex31, e_ex32, e_add, e_sub, e_mul, e_quo, e_rem, e_and, e_or, e_xor, e_shl, e_shr, e_eql, e_neq, e_lss, e_leq, e_gtr, e_geq, e_beq, e_bne, e_peq1, e_peq2, e_pne1, e_pne2, e_zeq1, e_zeq2, e_zne1, e_zne2, e_feq1, e_fne1, e_feq2, e_fne2, e_seq, e_sne, e_ta1, e_ta2, Nat.zero_add, Nat.add_zero, Bool.not_true, Bool.not_false]
  by_cases hlt : j < ops.length
  · have hlt' : (j : Int) < (ops.length : Int) := by omega
    simp only [hlt', decide_true, e_fd, e_nck, e_pkt, e_pkf, e_gdtt, e_gdtf, e_gdft, e_gdff, e_ift, e_iff, e_not, e_ln, e_lnT, e_cp, e_cvi, e_ex20, e_ex21, e_ex30, e_ex31, e_ex32, e_add, e_sub, e_mul, e_quo, e_rem, e_and, e_or, e_xor, e_shl, e_shr, e_eql, e_neq, e_lss, e_leq, e_gtr, e_geq, e_beq, e_bne, e_peq1, e_peq2, e_pne1, e_pne2, e_zeq1, e_zeq2, e_zne1, e_zne2, e_feq1, e_fne1, e_feq2, e_fne2, e_seq, e_sne, e_ta1, e_ta2, Nat.zero_add, Nat.add_zero, Bool.not_true, Bool.not_false]
    obtain ⟨hdl, hkl⟩ := hsm.2 ops[j] (by have := List.getElem_mem hlt; exact List.mem_of_mem_take (i := hf) (by rw [← hops]; exact this))
    refine hs.take h.bel hlt hkl fun w1 ob odv kvo hob r1 hk1 hov hdv hkv sdv skv => ?_
    refine ldn_r r1 (show 0 + 8 ≤ 8 by decide) ?_
    refine (h.kp' hk1).play hov fun w2 m2 bv h2 st2 _ => ?_
    try simp only [e_fd, e_nck, e_pkt, e_pkf, e_gdtt, e_gdtf, e_gdft, e_gdff, e_ift, e_iff, e_not, e_ln, e_lnT, e_cp, e_cvi, e_ex20, e_ex21, e_ex30, e_ex31, e_ex32, e_add, e_sub, e_mul, e_quo, e_rem, e_and, e_or, e_xor, e_shl, e_shr, e_eql, e_neq, e_lss, e_leq, e_gtr, e_geq, e_beq, e_bne, e_peq1, e_peq2, e_pne1, e_pne2, e_zeq1, e_zeq2, e_zne1, e_zne2, e_feq1, e_fne1, e_feq2, e_fne2, e_seq, e_sne, e_ta1, e_ta2, Nat.zero_add, Nat.add_zero, Bool.not_true, Bool.not_false]
    rw [wrap64_id (by omega) (by omega)]
    exact ⟨ops.length - (j + 1), by omega, j + 1, m2, _, by omega, rfl, by simp, h2⟩
  · have hlt' : ¬ (j : Int) < (ops.length : Int) := by omega
    simp only [hlt', decide_false, e_fd, e_nck, e_pkt, e_pkf, e_gdtt, e_gdtf, e_gdft, e_gdff, e_ift, e_iff, e_not, e_ln, e_lnT, e_cp, e_cvi, e_ex20, e_ex21, e_ex30, e_ex31, e_ex32, e_add, e_sub, e_mul, e_quo, e_rem, e_and, e_or, e_xor, e_shl, e_shr, e_eql, e_neq, e_lss, e_leq, e_gtr, e_geq, e_beq, e_bne, e_peq1, e_peq2, e_pne1, e_pne2, e_zeq1, e_zeq2, e_zne1, e_zne2, e_feq1, e_fne1, e_feq2, e_fne2, e_seq, e_sne, e_ta1, e_ta2, Nat.zero_add, Nat.add_zero, Bool.not_true, Bool.not_false]
    exact law8_mid hsv hhf hsm h

theorem law8 (hs : Scr W v xs) : cl Try.prog 8 #[v] (fun r w' => r = .bool true ∧ Below W.heap.size W w') W := by
  apply c8
  unfold s8_p13
  refine small_ok hs (Below.refl _ _) fun r hr => ?_
  simp only [e_fd, e_nck, e_pkt, e_pkf, e_gdtt, e_gdtf, e_gdft, e_gdff, e_ift, e_iff, e_not, e_ln, e_lnT, e_cp, e_cvi, e_ex20, e_ex21, e_ex30, e_ex31, e_ex32, e_add, e_sub, e_mul, e_quo, e_rem, e_and, e_or, e_xor, e_shl, e_shr, e_eql, e_neq, e_lss, e_leq, e_gtr, e_geq, e_beq, e_bne, e_peq1, e_peq2, e_pne1, e_pne2, e_zeq1, e_zeq2, e_zne1, e_zne2, e_feq1, e_fne1, e_feq2, e_fne2, e_seq, e_sne, e_ta1, e_ta2, Nat.zero_add, Nat.add_zero, Bool.not_true, Bool.not_false]
  cases r with
  | false =>
    simp only [Bool.not_false, e_fd, e_nck, e_pkt, e_pkf, e_gdtt, e_gdtf, e_gdft, e_gdff, e_ift, e_iff, e_not, e_ln, e_lnT, e_cp, e_cvi, e_ex20, e_ex21, e_ex30, e_ex31, e_ex32, e_add, e_sub, e_mul, e_quo, e_rem, e_and, e_or, e_xor, e_shl, e_shr, e_eql, e_neq, e_lss, e_leq, e_gtr, e_geq, e_beq, e_bne, e_peq1, e_peq2, e_pne1, e_pne2, e_zeq1, e_zeq2, e_zne1, e_zne2, e_feq1, e_fne1, e_feq2, e_fne2, e_seq, e_sne, e_ta1, e_ta2, Nat.zero_add, Nat.add_zero, Bool.not_true, Bool.not_false]
    exact ⟨trivial, Below.refl _ _⟩
  | true =>
    have hr := hr rfl
    simp only [Bool.not_true, e_fd, e_nck, e_pkt, e_pkf, e_gdtt, e_gdtf, e_gdft, e_gdff, e_ift, e_iff, e_not, e_ln, e_lnT, e_cp, e_cvi, e_ex20, e_ex21, e_ex30, e_ex31, e_ex32, e_add, e_sub, e_mul, e_quo, e_rem, e_and, e_or, e_xor, e_shl, e_shr, e_eql, e_neq, e_lss, e_leq, e_gtr, e_geq, e_beq, e_bne, e_peq1, e_peq2, e_pne1, e_pne2, e_zeq1, e_zeq2, e_zne1, e_zne2, e_feq1, e_fne1, e_feq2, e_fne2, e_seq, e_sne, e_ta1, e_ta2, Nat.zero_add, Nat.add_zero, Bool.not_true, Bool.not_false]
    refine fresh_ok fun w1 d m hd hfar hk1 => ?_
    refine hs.ln ?_
    simp only [e_fd, e_nck, e_pkt, e_pkf, e_gdtt, e_gdtf, e_gdft, e_gdff, e_ift, e_iff, e_not, e_ln, e_lnT, e_cp, e_cvi, e_ex20, e_ex21, e_ex30, e_ex31, e_ex32, e_add, e_sub, e_mul, e_quo, e_rem, e_and, e_or, e_xor, e_shl, e_shr, e_eql, e_neq, e_lss, e_leq, e_gtr, e_geq, e_beq, e_bne, e_peq1, e_peq2, e_pne1, e_pne2, e_zeq1, e_zeq2, e_zne1, e_zne2, e_feq1, e_fne1, e_feq2, e_fne2, e_seq, e_sne, e_ta1, e_ta2, Nat.zero_add, Nat.add_zero, Bool.not_true, Bool.not_false]
    refine ⟨by decide, ?_⟩
    have ed : ((xs.length : Nat) : Int).tdiv 2 = ((xs.length / 2 : Nat) : Int) := by rw [Int.tdiv_eq_ediv_of_nonneg (by omega)]; omega
    rw [ed, wrap64_id (by omega) (by omega)]
    refine hs.pre (h := xs.length / 2) (by omega) fun v' hv' => ?_
    refine hv'.ln ?_
    exact law8_first hs (by omega) hr hv' rfl ⟨hd, hfar, hk1.below'⟩
theorem law8_walk (hs : Scr W v xs) : Calls Try.prog 8 #[v] W fun e w' => e = .returned (.bool true) ∧ Below W.heap.size W w' :=
  Calls.mono (law8 hs) fun e w' ⟨v, he, hv, hb⟩ => ⟨by rw [he, hv], hb⟩
end
end Go.Proofs.Qxb6500895a
