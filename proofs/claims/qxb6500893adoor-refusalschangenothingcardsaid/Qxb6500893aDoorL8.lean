import Derived.Test.Qxb6500893aDoorA33
namespace Go.Proofs.Qxb6500893aDoor
open Go.Sh Go.RowKit
set_option linter.unusedVariables false
set_option linter.unusedSimpArgs false

section
variable {W w w' : World} {v : Value} {ops : List Op} {K : Value → World → Prop} {B1 : List Value → World → Prop} {s : Ws} {m : Wm} {M : Md} {c : Call} {t6 t7 : Nat} {t12 t13 : Value} {j kk nb : Nat} {F : Nat → List Nat}
/-- what a refused call stores -/
theorem refused (ok : s.T.Ok) (h : PInv s.A.ws s.T s.L F) (hf : FailLe 18446744073709551614 s) (hc : CallOk s c) (h8 : c.kind ≠ 8) (hn : (midF kk (s00 s) c).code ≠ 0) :
    ((midF kk (s00 s) c).code ≠ 7 ∧ (midF kk (s00 s) c).s.A.sd = []) ∨ ((midF kk (s00 s) c).code = 7 ∧ (realF kk nb s c).T = s.T ∧ ∃ i, ∃ hi : i < s.T.ps.length, (midF kk (s00 s) c).s.A.sd = [s.T.ps[i].ctl + 4]) := by
  have hkk : c.kind = 0 ∨ c.kind = 1 ∨ c.kind = 2 ∨ c.kind = 3 ∨ c.kind = 4 ∨ c.kind = 5 ∨ c.kind = 6 ∨ c.kind = 7 ∨ 9 ≤ c.kind := by omega
  rcases hkk with q | q | q | q | q | q | q | q | q
  · rcases step0 (s := s) (kk := kk) (nb := nb) q with ⟨_, e, _⟩ | ⟨_, e, _⟩
    · rw [e]
      refine .inl ⟨?_, rfl⟩
      show openC _ _ ≠ 7
      unfold openC; split <;> decide
    · rw [e] at hn; exact absurd rfl hn
  · rcases step1 (s := s) (kk := kk) (nb := nb) ok q with ⟨_, e, _⟩ | ⟨h0, hok, e, _⟩
    · rw [e]
      refine .inl ⟨?_, rfl⟩
      show crC _ _ _ ≠ 7
      unfold crC
      repeat (first | decide | split)
    · rw [e] at hn; exact absurd rfl hn
  · rcases step2 (s := s) (kk := kk) (nb := nb) ok q h hf with ⟨_, e, _⟩ | ⟨i, hi, _, hF, A', ew, es, e, er⟩ | ⟨i, hi, l, F', _, hF, e, _⟩
    · rw [e]; exact .inl ⟨by show (6 : Int) ≠ 7; decide, rfl⟩
    · rw [e, er]; exact .inr ⟨rfl, rfl, i, hi, es⟩
    · rw [e] at hn; exact absurd rfl hn
  · rcases step3 (s := s) (kk := kk) (nb := nb) ok q h with ⟨_, e, _⟩ | ⟨i, hi, _, _, A', ew, es, e, _⟩ | ⟨i, hi, l, A1, _, hl, hn', hc, ew, es, e, _⟩
    · rw [e]; exact .inl ⟨by show (6 : Int) ≠ 7; decide, rfl⟩
    · rw [e]; exact .inl ⟨(frC_ne _ _).2, es⟩
    · rw [e] at hn; exact absurd rfl hn
  · rcases step4 (s := s) (kk := kk) (nb := nb) ok q h with ⟨_, e, _⟩ | ⟨i, hi, _, _, A', ew, es, e, _⟩ | ⟨i, hi, l, A1, _, hl, hn', hc, ew, es, e, _⟩
    · rw [e]; exact .inl ⟨by show (8 : Int) ≠ 7; decide, rfl⟩
    · rw [e]; exact .inl ⟨(frC_ne _ _).2, es⟩
    · rw [e] at hn; exact absurd rfl hn
  · rcases step5 (s := s) (kk := kk) (nb := nb) ok q with ⟨_, e, _⟩ | ⟨i, hi, _, e, _⟩
    · rw [e]; exact .inl ⟨by show (8 : Int) ≠ 7; decide, rfl⟩
    · rw [e] at hn; exact absurd rfl hn
  · rcases step6 (s := s) (kk := kk) (nb := nb) q h with ⟨_, e, _⟩ | ⟨i, hi, _, A', ew, es, e, _⟩
    · rw [e]; exact .inl ⟨by show (6 : Int) ≠ 7; decide, rfl⟩
    · rw [e] at hn; exact absurd rfl hn
  · rcases step7 (s := s) (kk := kk) (nb := nb) q hc with ⟨_, e, _⟩ | ⟨p, hp, t, ht, A', ew, es, e, _⟩ <;> (rw [e] at hn; exact absurd rfl hn)
  · have e := (step9 (s := s) (kk := kk) (nb := nb) (c := c) q).1
    rw [e]; exact .inl ⟨by show (12 : Int) ≠ 7; decide, rfl⟩
theorem own_ctl {i : Nat} {T : Tb} (ok : T.Ok) (hi : i < T.ps.length) : ownV T (T.ps[i].ctl + 4) = -1 := by
  unfold ownV
  rw [ownI_none]
  intro sh hsh q
  obtain ⟨k, hk, rfl⟩ := List.getElem_of_mem hsh
  have o1 := (ok.sh _ (List.getElem_mem hi)).1
  have o2 := (ok.sh _ (List.getElem_mem hk)).1
  have f1 := fst_ge o1
  have f2 := fst_ge o2
  have g1 := o1.fin
  have g2 := o2.fin
  obtain ⟨q1, q2⟩ := q
  by_cases e : i = k
  · subst e; omega
  · have := apart ok hi hk e; omega
/-- the state of a law's loop that plays the model too -/
structure LN (W w : World) (m : Wm) (s : Ws) (M : Md) (F : Nat → List Nat) (j : Nat) : Prop where
  lm : LM W w m s M
  live : LiveIn s.L
  len : s.L.length ≤ j
  inv : PInv s.A.ws s.T s.L F
  fl : FailLe j s
  mt : Mt s.A.ws s.T F M
theorem LN.kp' (h : LN W w m s M F j) (hk : Kp (fun _ => False) w w') : LN W w' m s M F j := ⟨h.lm.kp' hk, h.live, h.len, h.inv, h.fl, h.mt⟩
theorem LN.up (h : LN W w m s M F j) : LN W w m s M F (j + 1) := ⟨h.lm, h.live, by have := h.len; omega, h.inv, h.fl.mono (by omega), h.mt⟩
theorem LN.start {A : Ar} {mb : Nat} (h : LSt W w m ⟨A, openT 24 4040, []⟩) (hmd : m.md = P mb 0) (hr : Row w mb 54 [I 4040, nilS]) (hz : W.heap.size ≤ mb) : LN W w m ⟨A, openT 24 4040, []⟩ ⟨mb, 4040, none, nilS, []⟩ (fun _ => []) 0 := by
  refine ⟨⟨h, hmd, ⟨hr, ⟨rfl, rfl⟩, fun p hp => (by cases hp), fun p hp => (by cases hp), List.nodup_nil, List.nodup_nil⟩, ?_⟩, fun x hx => (by cases hx), Nat.le_refl _, PInv.open A 24 4040, fun sh hsh => (by cases hsh), ⟨rfl, rfl, fun i hi => absurd hi (Nat.not_lt_zero _)⟩⟩
  rintro b (q | q | ⟨p, hp, q⟩ | ⟨p, hp, q⟩)
  · have q : b = mb := q
    omega
  · cases q
  · cases hp
  · cases hp
theorem resF_open {L : List Lb} {o : Op} (h : (resF L o).kind = 0) : (0 ≤ (resF L o).a ∧ (resF L o).a < 4294967296) ∧ 0 ≤ (resF L o).b ∧ (resF L o).b < 4294967296 := by
  rw [resF_kind] at h
  have e : resF L o = { baseC o with a := (m32 o.a : Nat), b := (m32 o.b : Nat) } := by unfold resF; rw [if_pos h]
  rw [e]
  have := m32_lt o.a
  have := m32_lt o.b
  refine ⟨⟨by show 0 ≤ ((m32 o.a : Nat) : Int); omega, by show ((m32 o.a : Nat) : Int) < _; omega⟩, by show 0 ≤ ((m32 o.b : Nat) : Int); omega, by show ((m32 o.b : Nat) : Int) < _; omega⟩
/-- the real layer's call, seen from the law's state -/
theorem LN.real (h : LN W w m s M F j) (hj : j < 1000000) (hco : CallOk s c) (h8 : c.kind ≠ 8) {m' : Wm} (h' : LSt W w' m' (realF kk nb s c)) (st : StW w w' m s.L m' (realF kk nb s c).L) : LM W w' m' (realF kk nb s c) M ∧ LiveIn (realF kk nb s c).L ∧ (realF kk nb s c).L.length ≤ j + 1 ∧ FailLe (j + 1) (realF kk nb s c) := by
  have hl := h.len
  have hL := real_len (s := s) (c := c) kk nb
  exact ⟨h.lm.real h' st, real_live (c := c) kk nb h.lm.st.wd.ok h.live, by omega, real_fail (kk := kk) (nb := nb) h.lm.st.wd.ok hco h8 h.inv (by omega) h.fl⟩
/-- a row of another tag is kept by the model's call -/
theorem LM.keep (h : LM W w m s M) (hk : Kp (fun b => OwnM M b ∨ b = m.wdb) w w') {b : Nat} {t : TypeId} {l : List Value} (hr : Row w b t l) (h1 : t ≠ 54) (h2 : t ≠ 57) (h3 : t ≠ 60) (h4 : t ≠ 50) : Row w' b t l :=
  hk.row hr (fun q => by
    rcases q with q | q
    · exact h.mt.ntag hr h1 h2 h3 q
    · exact row_ne hr h.st.wd.row h4 q)
theorem LM.keepS (h : LM W w m s M) (hk : Kp (fun b => OwnM M b ∨ b = m.wdb) w w') {α : Type} {f : α → List Value} {k : Nat} {t : TypeId} {ob : Option Nat} {sv : Value} {xs : List α} (hr : Sl f k w t ob sv xs) (h1 : t ≠ 54) (h2 : t ≠ 57) (h3 : t ≠ 60) (h4 : t ≠ 50) : Sl f k w' t ob sv xs :=
  hr.kp hk (fun b hb q => by
    obtain ⟨l, hr'⟩ := hr.row hb
    rcases q with q | q
    · exact h.mt.ntag hr' h1 h2 h3 q
    · exact row_ne hr' h.st.wd.row h4 q)

theorem law8_loop (hs : Scr W v ops) (hl : ops.length ≤ 65536) (h : LN W w m s M F 0) (hK : ∀ w', Below W.heap.size W w' → K (.bool true) w') : s8_p4 K (P m.wdb 0) v (I ops.length) (I 0) w := by
  unfold s8_p4
  refine ⟨fun n l w' => ∃ (j : Nat) (m' : Wm) (s' : Ws) (M' : Md) (F' : Nat → List Nat), j ≤ ops.length ∧ n + j = ops.length ∧ l = [P m'.wdb 0, v, I ops.length, I j] ∧ LN W w' m' s' M' F' j,
    ops.length, ⟨0, m, s, M, F, Nat.zero_le _, rfl, rfl, h⟩, ?_⟩
  rintro n l w1 ⟨j, m1, s1, M1, F1, hj, hn, rfl, h1⟩
  rw [s8_p4_Fe]
  unfold s8_p3
  try simp only [e_fd, e_nck, e_pkt, e_pkf, e_gdtt, e_gdtf, e_gdft, e_gdff, e_ift, e_iff, e_not, e_ln, e_lnT, e_cp, e_cvi, e_ex20, e_ex21, e_ex30, e_ex31, e_ex32, e_add, e_sub, e_mul, e_quo, e_rem, e_and, e_or, e_xor, e_shl, e_shr, e_eql, e_neq, e_lss, e_leq, e_gtr, e_geq, e_beq, e_bne, e_peq1, e_peq2, e_pne1, e_pne2, e_zeq1, e_zeq2, e_zne1, e_zne2, e_feq1, e_fne1, e_feq2, e_fne2, e_seq, e_sne, e_ta1, e_ta2, Nat.zero_add, Nat.add_zero, Bool.not_true, Bool.not_false]
  by_cases hlt : j < ops.length
  · have hlt' : (j : Int) < ((ops.length : Nat) : Int) := by omega
    simp only [hlt', decide_true, e_fd, e_nck, e_pkt, e_pkf, e_gdtt, e_gdtf, e_gdft, e_gdff, e_ift, e_iff, e_not, e_ln, e_lnT, e_cp, e_cvi, e_ex20, e_ex21, e_ex30, e_ex31, e_ex32, e_add, e_sub, e_mul, e_quo, e_rem, e_and, e_or, e_xor, e_shl, e_shr, e_eql, e_neq, e_lss, e_leq, e_gtr, e_geq, e_beq, e_bne, e_peq1, e_peq2, e_pne1, e_pne2, e_zeq1, e_zeq2, e_zne1, e_zne2, e_feq1, e_fne1, e_feq2, e_fne2, e_seq, e_sne, e_ta1, e_ta2, Nat.zero_add, Nat.add_zero, Bool.not_true, Bool.not_false]
    refine hs.take h1.lm.st.bel hlt fun w2 t5 r5 hk2 hz2 => ?_
    have h2 := h1.kp' hk2
    try simp only [e_fd, e_nck, e_pkt, e_pkf, e_gdtt, e_gdtf, e_gdft, e_gdff, e_ift, e_iff, e_not, e_ln, e_lnT, e_cp, e_cvi, e_ex20, e_ex21, e_ex30, e_ex31, e_ex32, e_add, e_sub, e_mul, e_quo, e_rem, e_and, e_or, e_xor, e_shl, e_shr, e_eql, e_neq, e_lss, e_leq, e_gtr, e_geq, e_beq, e_bne, e_peq1, e_peq2, e_pne1, e_pne2, e_zeq1, e_zeq2, e_zne1, e_zne2, e_feq1, e_fne1, e_feq2, e_fne2, e_seq, e_sne, e_ta1, e_ta2, Nat.zero_add, Nat.add_zero, Bool.not_true, Bool.not_false]
    refine ld1_r r5 rfl ?_
    unfold u8
    try simp only [e_fd, e_nck, e_pkt, e_pkf, e_gdtt, e_gdtf, e_gdft, e_gdff, e_ift, e_iff, e_not, e_ln, e_lnT, e_cp, e_cvi, e_ex20, e_ex21, e_ex30, e_ex31, e_ex32, e_add, e_sub, e_mul, e_quo, e_rem, e_and, e_or, e_xor, e_shl, e_shr, e_eql, e_neq, e_lss, e_leq, e_gtr, e_geq, e_beq, e_bne, e_peq1, e_peq2, e_pne1, e_pne2, e_zeq1, e_zeq2, e_zne1, e_zne2, e_feq1, e_fne1, e_feq2, e_fne2, e_seq, e_sne, e_ta1, e_ta2, Nat.zero_add, Nat.add_zero, Bool.not_true, Bool.not_false]
    have wf := hs.1 _ (List.getElem_mem hlt)
    generalize ops[j] = o at r5 wf ⊢
    have skip : ∀ {w' m' s' M' F'}, m'.wdb = m1.wdb → LN W w' m' s' M' F' (j + 1) → s8_p2 K (fun l' w' => ∃ m_1, m_1 < n ∧ ∃ (j' : Nat) (m' : Wm) (s' : Ws) (M' : Md) (F' : Nat → List Nat), j' ≤ ops.length ∧ m_1 + j' = ops.length ∧ l' = [P m'.wdb 0, v, I ops.length, I j'] ∧ LN W w' m' s' M' F' j') (P m1.wdb 0) v (I ops.length) (I j) w' := by
      intro w' m' s' M' F' e' h'
      unfold s8_p2
      try simp only [e_fd, e_nck, e_pkt, e_pkf, e_gdtt, e_gdtf, e_gdft, e_gdff, e_ift, e_iff, e_not, e_ln, e_lnT, e_cp, e_cvi, e_ex20, e_ex21, e_ex30, e_ex31, e_ex32, e_add, e_sub, e_mul, e_quo, e_rem, e_and, e_or, e_xor, e_shl, e_shr, e_eql, e_neq, e_lss, e_leq, e_gtr, e_geq, e_beq, e_bne, e_peq1, e_peq2, e_pne1, e_pne2, e_zeq1, e_zeq2, e_zne1, e_zne2, e_feq1, e_fne1, e_feq2, e_fne2, e_seq, e_sne, e_ta1, e_ta2, Nat.zero_add, Nat.add_zero, Bool.not_true, Bool.not_false]
      rw [wrap64_id (by omega) (by omega)]
      exact ⟨n - 1, by omega, j + 1, m', s', M', F', by omega, by omega, by rw [e']; simp, h'⟩
    by_cases k8 : o.kind = 8
    · have e : (((o.kind : Nat) : Int) == 8) = true := by rw [k8]; rfl
      simp only [e, e_fd, e_nck, e_pkt, e_pkf, e_gdtt, e_gdtf, e_gdft, e_gdff, e_ift, e_iff, e_not, e_ln, e_lnT, e_cp, e_cvi, e_ex20, e_ex21, e_ex30, e_ex31, e_ex32, e_add, e_sub, e_mul, e_quo, e_rem, e_and, e_or, e_xor, e_shl, e_shr, e_eql, e_neq, e_lss, e_leq, e_gtr, e_geq, e_beq, e_bne, e_peq1, e_peq2, e_pne1, e_pne2, e_zeq1, e_zeq2, e_zne1, e_zne2, e_feq1, e_fne1, e_feq2, e_fne2, e_seq, e_sne, e_ta1, e_ta2, Nat.zero_add, Nat.add_zero, Bool.not_true, Bool.not_false]
      exact skip rfl h2.up
    have e : (((o.kind : Nat) : Int) == 8) = false := by rw [beq_eq_false_iff_ne]; omega
    simp only [e, e_fd, e_nck, e_pkt, e_pkf, e_gdtt, e_gdtf, e_gdft, e_gdff, e_ift, e_iff, e_not, e_ln, e_lnT, e_cp, e_cvi, e_ex20, e_ex21, e_ex30, e_ex31, e_ex32, e_add, e_sub, e_mul, e_quo, e_rem, e_and, e_or, e_xor, e_shl, e_shr, e_eql, e_neq, e_lss, e_leq, e_gtr, e_geq, e_beq, e_bne, e_peq1, e_peq2, e_pne1, e_pne2, e_zeq1, e_zeq2, e_zne1, e_zne2, e_feq1, e_fne1, e_feq2, e_fne2, e_seq, e_sne, e_ta1, e_ta2, Nat.zero_add, Nat.add_zero, Bool.not_true, Bool.not_false]
    have hlen := h1.len
    refine round_head h2.lm.st r5 wf (by omega) fun w3 t6 h3s r6 _ hk3 hz3 => ?_
    have h3 := h2.kp' hk3
    have hco := resF_ok h3.live h3s.rng wf
    have hck8 : (resF s1.L o).kind ≠ 8 := by rw [resF_kind]; exact k8
    have hop := resF_open (L := s1.L) (o := o)
    generalize resF s1.L o = c at r6 hco hck8 hop ⊢
    refine round_real h3.lm.st r6 hco (by omega) fun w4 m4 kk nb t7 sob sv hkk h4s st4 r64 r7 sl4 no4 hz4 => ?_
    obtain ⟨h4, hg4, hL4, hf4⟩ := h3.real (by omega) hco hck8 h4s st4
    have hfm : FailLe 18446744073709551614 s1 := h3.fl.mono (by omega)
    have ok1 := h3.lm.st.wd.ok
    refine ldn_r r64 (show 0 + 6 ≤ 6 by decide) ?_
    try simp only [e_fd, e_nck, e_pkt, e_pkf, e_gdtt, e_gdtf, e_gdft, e_gdff, e_ift, e_iff, e_not, e_ln, e_lnT, e_cp, e_cvi, e_ex20, e_ex21, e_ex30, e_ex31, e_ex32, e_add, e_sub, e_mul, e_quo, e_rem, e_and, e_or, e_xor, e_shl, e_shr, e_eql, e_neq, e_lss, e_leq, e_gtr, e_geq, e_beq, e_bne, e_peq1, e_peq2, e_pne1, e_pne2, e_zeq1, e_zeq2, e_zne1, e_zne2, e_feq1, e_fne1, e_feq2, e_fne2, e_seq, e_sne, e_ta1, e_ta2, Nat.zero_add, Nat.add_zero, Bool.not_true, Bool.not_false]
    refine ld1_r r7 rfl ?_
    rw [← st4.wdb]
    refine model_ok (F := F1) h4 ok1 h3.inv hfm h3.mt hco hck8 hop rfl fun w5 m5 M5 F5 h5 e5 hk5 hI5 hmt5 => ?_
    rw [st4.wdb]
    have r75 := h4.keep hk5 r7 (by decide) (by decide) (by decide) (by decide)
    have sl5 := h4.keepS hk5 sl4 (by decide) (by decide) (by decide) (by decide)
    have hN : LN W w5 m5 (realF kk nb s1 c) M5 F5 (j + 1) := ⟨h5, hg4, hL4, hI5, hf4, hmt5⟩
    have ew : m5.wdb = m1.wdb := e5.trans st4.wdb
    try simp only [e_fd, e_nck, e_pkt, e_pkf, e_gdtt, e_gdtf, e_gdft, e_gdff, e_ift, e_iff, e_not, e_ln, e_lnT, e_cp, e_cvi, e_ex20, e_ex21, e_ex30, e_ex31, e_ex32, e_add, e_sub, e_mul, e_quo, e_rem, e_and, e_or, e_xor, e_shl, e_shr, e_eql, e_neq, e_lss, e_leq, e_gtr, e_geq, e_beq, e_bne, e_peq1, e_peq2, e_pne1, e_pne2, e_zeq1, e_zeq2, e_zne1, e_zne2, e_feq1, e_fne1, e_feq2, e_fne2, e_seq, e_sne, e_ta1, e_ta2, Nat.zero_add, Nat.add_zero, Bool.not_true, Bool.not_false]
    refine ld1_r r75 rfl ?_
    try simp only [e_fd, e_nck, e_pkt, e_pkf, e_gdtt, e_gdtf, e_gdft, e_gdff, e_ift, e_iff, e_not, e_ln, e_lnT, e_cp, e_cvi, e_ex20, e_ex21, e_ex30, e_ex31, e_ex32, e_add, e_sub, e_mul, e_quo, e_rem, e_and, e_or, e_xor, e_shl, e_shr, e_eql, e_neq, e_lss, e_leq, e_gtr, e_geq, e_beq, e_bne, e_peq1, e_peq2, e_pne1, e_pne2, e_zeq1, e_zeq2, e_zne1, e_zne2, e_feq1, e_fne1, e_feq2, e_fne2, e_seq, e_sne, e_ta1, e_ta2, Nat.zero_add, Nat.add_zero, Bool.not_true, Bool.not_false]
    by_cases h0 : (midF kk (s00 s1) c).code = 0
    · have e0 : ((midF kk (s00 s1) c).code == 0) = true := by rw [h0]; rfl
      simp only [e0, e_fd, e_nck, e_pkt, e_pkf, e_gdtt, e_gdtf, e_gdft, e_gdff, e_ift, e_iff, e_not, e_ln, e_lnT, e_cp, e_cvi, e_ex20, e_ex21, e_ex30, e_ex31, e_ex32, e_add, e_sub, e_mul, e_quo, e_rem, e_and, e_or, e_xor, e_shl, e_shr, e_eql, e_neq, e_lss, e_leq, e_gtr, e_geq, e_beq, e_bne, e_peq1, e_peq2, e_pne1, e_pne2, e_zeq1, e_zeq2, e_zne1, e_zne2, e_feq1, e_fne1, e_feq2, e_fne2, e_seq, e_sne, e_ta1, e_ta2, Nat.zero_add, Nat.add_zero, Bool.not_true, Bool.not_false]
      exact skip ew hN
    have e0 : ((midF kk (s00 s1) c).code == 0) = false := by rw [beq_eq_false_iff_ne]; exact h0
    simp only [e0, e_fd, e_nck, e_pkt, e_pkf, e_gdtt, e_gdtf, e_gdft, e_gdff, e_ift, e_iff, e_not, e_ln, e_lnT, e_cp, e_cvi, e_ex20, e_ex21, e_ex30, e_ex31, e_ex32, e_add, e_sub, e_mul, e_quo, e_rem, e_and, e_or, e_xor, e_shl, e_shr, e_eql, e_neq, e_lss, e_leq, e_gtr, e_geq, e_beq, e_bne, e_peq1, e_peq2, e_pne1, e_pne2, e_zeq1, e_zeq2, e_zne1, e_zne2, e_feq1, e_fne1, e_feq2, e_fne2, e_seq, e_sne, e_ta1, e_ta2, Nat.zero_add, Nat.add_zero, Bool.not_true, Bool.not_false]
    refine ld1_r r75 rfl ?_
    try simp only [e_fd, e_nck, e_pkt, e_pkf, e_gdtt, e_gdtf, e_gdft, e_gdff, e_ift, e_iff, e_not, e_ln, e_lnT, e_cp, e_cvi, e_ex20, e_ex21, e_ex30, e_ex31, e_ex32, e_add, e_sub, e_mul, e_quo, e_rem, e_and, e_or, e_xor, e_shl, e_shr, e_eql, e_neq, e_lss, e_leq, e_gtr, e_geq, e_beq, e_bne, e_peq1, e_peq2, e_pne1, e_pne2, e_zeq1, e_zeq2, e_zne1, e_zne2, e_feq1, e_fne1, e_feq2, e_fne2, e_seq, e_sne, e_ta1, e_ta2, Nat.zero_add, Nat.add_zero, Bool.not_true, Bool.not_false]
    rcases refused (kk := kk) (nb := nb) ok1 h3.inv hfm hco hck8 h0 with ⟨h7, hsd⟩ | ⟨h7, hT, i, hi, hsd⟩
    · have e7 : ((midF kk (s00 s1) c).code != 7) = true := by rw [bne_iff_ne]; exact h7
      simp only [e7, e_fd, e_nck, e_pkt, e_pkf, e_gdtt, e_gdtf, e_gdft, e_gdff, e_ift, e_iff, e_not, e_ln, e_lnT, e_cp, e_cvi, e_ex20, e_ex21, e_ex30, e_ex31, e_ex32, e_add, e_sub, e_mul, e_quo, e_rem, e_and, e_or, e_xor, e_shl, e_shr, e_eql, e_neq, e_lss, e_leq, e_gtr, e_geq, e_beq, e_bne, e_peq1, e_peq2, e_pne1, e_pne2, e_zeq1, e_zeq2, e_zne1, e_zne2, e_feq1, e_fne1, e_feq2, e_fne2, e_seq, e_sne, e_ta1, e_ta2, Nat.zero_add, Nat.add_zero, Bool.not_true, Bool.not_false]
      refine ld1_r r75 (v := sv) rfl ?_
      rw [hsd] at sl5
      refine sl5.ln ?_
      simp only [List.length_nil, show (((0 : Nat) : Int) != 0) = false from rfl, e_fd, e_nck, e_pkt, e_pkf, e_gdtt, e_gdtf, e_gdft, e_gdff, e_ift, e_iff, e_not, e_ln, e_lnT, e_cp, e_cvi, e_ex20, e_ex21, e_ex30, e_ex31, e_ex32, e_add, e_sub, e_mul, e_quo, e_rem, e_and, e_or, e_xor, e_shl, e_shr, e_eql, e_neq, e_lss, e_leq, e_gtr, e_geq, e_beq, e_bne, e_peq1, e_peq2, e_pne1, e_pne2, e_zeq1, e_zeq2, e_zne1, e_zne2, e_feq1, e_fne1, e_feq2, e_fne2, e_seq, e_sne, e_ta1, e_ta2, Nat.zero_add, Nat.add_zero, Bool.not_true, Bool.not_false]
      exact skip ew hN
    · have e7 : ((midF kk (s00 s1) c).code != 7) = false := by rw [h7]; rfl
      simp only [e7, e_fd, e_nck, e_pkt, e_pkf, e_gdtt, e_gdtf, e_gdft, e_gdff, e_ift, e_iff, e_not, e_ln, e_lnT, e_cp, e_cvi, e_ex20, e_ex21, e_ex30, e_ex31, e_ex32, e_add, e_sub, e_mul, e_quo, e_rem, e_and, e_or, e_xor, e_shl, e_shr, e_eql, e_neq, e_lss, e_leq, e_gtr, e_geq, e_beq, e_bne, e_peq1, e_peq2, e_pne1, e_pne2, e_zeq1, e_zeq2, e_zne1, e_zne2, e_feq1, e_fne1, e_feq2, e_fne2, e_seq, e_sne, e_ta1, e_ta2, Nat.zero_add, Nat.add_zero, Bool.not_true, Bool.not_false]
      refine ld1_r r75 (v := sv) rfl ?_
      rw [hsd] at sl5
      refine sl5.ln ?_
      simp only [List.length_singleton, show (((1 : Nat) : Int) != 1) = false from rfl, e_fd, e_nck, e_pkt, e_pkf, e_gdtt, e_gdtf, e_gdft, e_gdff, e_ift, e_iff, e_not, e_ln, e_lnT, e_cp, e_cvi, e_ex20, e_ex21, e_ex30, e_ex31, e_ex32, e_add, e_sub, e_mul, e_quo, e_rem, e_and, e_or, e_xor, e_shl, e_shr, e_eql, e_neq, e_lss, e_leq, e_gtr, e_geq, e_beq, e_bne, e_peq1, e_peq2, e_pne1, e_pne2, e_zeq1, e_zeq2, e_zne1, e_zne2, e_feq1, e_fne1, e_feq2, e_fne2, e_seq, e_sne, e_ta1, e_ta2, Nat.zero_add, Nat.add_zero, Bool.not_true, Bool.not_false]
      refine ld1_r r75 (v := sv) rfl ?_
      have hlim := (ok1.sh _ (List.getElem_mem hi)).1.lim
      have hfg := fst_ge (ok1.sh _ (List.getElem_mem hi)).1
      have hfin := (ok1.sh _ (List.getElem_mem hi)).1.fin
      refine sl5.ix (i := 0) u1_len (by simp) fun b l hb hr hg' hll _ => ?_
      refine ld1_r hr (v := U32 (s1.T.ps[i].ctl + 4)) (by have := hg' 0 (by decide); rw [Nat.add_zero] at this; rw [this]; rfl) ?_
      rw [← ew]
      refine wowner_ok h5.st h5.mt h5.md hmt5.len hmt5.fits (by omega) fun w6 hk6 => ?_
      rw [hT, own_ctl ok1 hi]
      simp only [show ((-1 : Int) != -1) = false from rfl, e_fd, e_nck, e_pkt, e_pkf, e_gdtt, e_gdtf, e_gdft, e_gdff, e_ift, e_iff, e_not, e_ln, e_lnT, e_cp, e_cvi, e_ex20, e_ex21, e_ex30, e_ex31, e_ex32, e_add, e_sub, e_mul, e_quo, e_rem, e_and, e_or, e_xor, e_shl, e_shr, e_eql, e_neq, e_lss, e_leq, e_gtr, e_geq, e_beq, e_bne, e_peq1, e_peq2, e_pne1, e_pne2, e_zeq1, e_zeq2, e_zne1, e_zne2, e_feq1, e_fne1, e_feq2, e_fne2, e_seq, e_sne, e_ta1, e_ta2, Nat.zero_add, Nat.add_zero, Bool.not_true, Bool.not_false]
      rw [ew]
      exact skip ew (hN.kp' hk6)
  · have hlt' : ¬ (j : Int) < ((ops.length : Nat) : Int) := by omega
    simp only [hlt', decide_false, e_fd, e_nck, e_pkt, e_pkf, e_gdtt, e_gdtf, e_gdft, e_gdff, e_ift, e_iff, e_not, e_ln, e_lnT, e_cp, e_cvi, e_ex20, e_ex21, e_ex30, e_ex31, e_ex32, e_add, e_sub, e_mul, e_quo, e_rem, e_and, e_or, e_xor, e_shl, e_shr, e_eql, e_neq, e_lss, e_leq, e_gtr, e_geq, e_beq, e_bne, e_peq1, e_peq2, e_pne1, e_pne2, e_zeq1, e_zeq2, e_zne1, e_zne2, e_feq1, e_fne1, e_feq2, e_fne2, e_seq, e_sne, e_ta1, e_ta2, Nat.zero_add, Nat.add_zero, Bool.not_true, Bool.not_false]
    unfold s8_p1
    exact hK w1 h1.lm.st.bel

theorem law8 (hs : Scr W v ops) (g0 : W.cell? ⟨0, 0, none⟩ = some (U32 24)) (g1 : W.cell? ⟨0, 1, none⟩ = some (U32 4040)) : cl Tryd.prog 8 #[v] (fun r w' => r = .bool true ∧ Below W.heap.size W w') W := by
  apply c8
  unfold s8_p5
  refine small_ok hs ?_
  by_cases hl : ops.length ≤ 65536
  · simp only [hl, decide_true, e_fd, e_nck, e_pkt, e_pkf, e_gdtt, e_gdtf, e_gdft, e_gdff, e_ift, e_iff, e_not, e_ln, e_lnT, e_cp, e_cvi, e_ex20, e_ex21, e_ex30, e_ex31, e_ex32, e_add, e_sub, e_mul, e_quo, e_rem, e_and, e_or, e_xor, e_shl, e_shr, e_eql, e_neq, e_lss, e_leq, e_gtr, e_geq, e_beq, e_bne, e_peq1, e_peq2, e_pne1, e_pne2, e_zeq1, e_zeq2, e_zne1, e_zne2, e_feq1, e_fne1, e_feq2, e_fne2, e_seq, e_sne, e_ta1, e_ta2, Nat.zero_add, Nat.add_zero, Bool.not_true, Bool.not_false]
    refine newWorld_ok g0 g1 (Below.refl _ _) fun w1 m A mb h1 ho1 hmd rmb hz1 hk1 => ?_
    refine hs.ln ?_
    exact law8_loop hs hl (LN.start h1 hmd rmb hz1) fun w' hb => ⟨rfl, hb⟩
  · simp only [hl, decide_false, e_fd, e_nck, e_pkt, e_pkf, e_gdtt, e_gdtf, e_gdft, e_gdff, e_ift, e_iff, e_not, e_ln, e_lnT, e_cp, e_cvi, e_ex20, e_ex21, e_ex30, e_ex31, e_ex32, e_add, e_sub, e_mul, e_quo, e_rem, e_and, e_or, e_xor, e_shl, e_shr, e_eql, e_neq, e_lss, e_leq, e_gtr, e_geq, e_beq, e_bne, e_peq1, e_peq2, e_pne1, e_pne2, e_zeq1, e_zeq2, e_zne1, e_zne2, e_feq1, e_fne1, e_feq2, e_fne2, e_seq, e_sne, e_ta1, e_ta2, Nat.zero_add, Nat.add_zero, Bool.not_true, Bool.not_false]
    exact ⟨trivial, Below.refl _ _⟩
theorem law8_walk (hs : Scr W v ops) (g0 : W.cell? ⟨0, 0, none⟩ = some (U32 24)) (g1 : W.cell? ⟨0, 1, none⟩ = some (U32 4040)) : Calls Tryd.prog 8 #[v] W fun e w' => e = .returned (.bool true) ∧ Below W.heap.size W w' :=
  Calls.mono (law8 hs g0 g1) fun e w' ⟨r, he, hr, hb⟩ => ⟨by rw [he, hr], hb⟩
end
end Go.Proofs.Qxb6500893aDoor
