import Derived.Test.Qxb6500896aGreatK61
namespace Go.Proofs.Qxb6500896aGreat
open Go.Sh Go.RowKit
set_option linter.unusedVariables false
set_option linter.unusedSimpArgs false

/-- entries are carried out again, one by one -/
def rplL (C : Cfg) : List (List Int) → Sg → Option Sg
  | [], σ => some σ
  | x :: l, σ => match rplS C x σ with
    | none => none
    | some σ' => rplL C l σ'
/-- where an engine starts -/
def opn0 (C : Cfg) (J : Jr) : Option Sg :=
  if J.has = true then (if (decImg J.snap).2 = true ∧ chkImg C (decImg J.snap).1 = true then some { (sg0 C).im (decImg J.snap).1 with res := true } else none) else some (sg0 C)
def opn1 (C : Cfg) (J : Jr) : Option Sg := match opn0 C J with
  | none => none
  | some σ => rplL C J.log σ
/-- an engine is opened: the journal, the engine, the code -/
def opnS (C : Cfg) (J : Jr) : Jr × Option Sg × Int :=
  if J.off = true then (J, none, 19) else if J.left = 1 then (failJ (dueJ J) J.keep, none, 19)
  else match opn1 C J with
    | none => (dueJ J, none, 20)
    | some σ => if (aftS C { σ with tail := (J.log.length : Nat) } (dueJ J)).2.2 = 0 then ((aftS C { σ with tail := (J.log.length : Nat) } (dueJ J)).2.1, some (aftS C { σ with tail := (J.log.length : Nat) } (dueJ J)).1, 0)
      else ((aftS C { σ with tail := (J.log.length : Nat) } (dueJ J)).2.1, none, 19)
/-- the texts of a journal are octets -/
structure JBy (J : Jr) : Prop where
  s : By J.snap
  l : ∀ x ∈ J.log, By x
  n : J.snap.length ≤ 1000000
abbrev SGd (C : Cfg) (σ : Sg) : Prop := Gd C σ.seq σ.now σ.rs σ.ls
theorem rplS_gd {C : Cfg} (cv : CV C) {x : List Int} {σ σ' : Sg} (g : SGd C σ) (h : rplS C x σ = some σ') : SGd C σ' := by
  unfold rplS at h
  split at h
  · rename_i q
    cases h
    obtain ⟨q1, q2, q3, q4, q5⟩ := q
    have := (par_x q1).2.2
    exact apS_gd cv g q4 (by omega) q5
  · cases h
theorem wrap64_b (n : Int) : -9223372036854775808 ≤ IntKind.i64.wrap n ∧ IntKind.i64.wrap n ≤ 9223372036854775807 := by
  unfold IntKind.wrap
  have e : (2 ^ IntKind.i64.bits : Int) = 18446744073709551616 := by decide
  have e2 : (2 ^ (IntKind.i64.bits - 1) : Int) = 9223372036854775808 := by decide
  rw [e, e2]
  simp only [IntKind.signed, Bool.true_and, decide_eq_true_eq]
  split <;> omega
section
variable {F G M0 M M' S V : Nat → Prop} {w w' w0 w1 w4 : World} {v v' rv lv iv va vt env : Value} {l : List Value} {n wb e t b c pb j : Nat} {C : Cfg} {K : Value → World → Prop} {m0 m m' m4 : Me} {σ σ' : Sg} {J J' : Jr} {q : Rq} {p : Rp} {x : List Int} {lob : Option Nat}
theorem er_new {code : Int} {s : ByteArray} (hK : ∀ w' ev, Kp Emp w w' → Er w' ev code → K (.tuple #[.pointer none, ev]) w') : bdq [I 0, .string ⟨#[]⟩] [(some (0, 1), I code), (some (1, 1), .string s)] (fun t w => nw 157 t.cells (fun p w => K (.tuple #[.pointer none, .iface 155 p]) w) w) w := by
  refine bdq_r (l := [I code, .string s]) rfl ?_
  refine nw_r fun w3 r3 hk3 hz3 => ?_
  exact hK w3 _ hk3 ⟨_, _, rfl, r3⟩
set_option maxHeartbeats 1000000 in
theorem open_ok (hc : Cg F w l C) (hv : vCfg C = true) (hmb : C.mb ≤ 1000000) (hj : Jn M w j lob J) (hjF : ∀ b, F b → b ≠ j) (hby : JBy J)
    (herr : (opnS C J).2.1 = none → ∀ w' M' lob' ev, Ext M M' w w' → Kp (OwnJ j lob) w w' → (∀ b, lob' = some b → lob = some b ∨ w.heap.size ≤ b) → Jn M' w' j lob' (opnS C J).1 → Er w' ev (opnS C J).2.2 → K (.tuple #[.pointer none, ev]) w')
    (hok : ∀ σ', (opnS C J).2.1 = some σ' → ∀ w' M' e m, Ext M M' w w' → Kp (OwnJ j lob) w w' → m.j = j → (∀ b, OwnE e m b → OwnJ j lob b ∨ w.heap.size ≤ b) → w.heap.size ≤ e → En M' w' e m C σ' (opnS C J).1 → K (.tuple #[P e 0, .nilIface]) w') : cl Tryz.prog 38 #[.agg l.toArray, P j 0] K w := by
  have cv := cv_of hv
  have hcl := hc.len
  have jlt := hj.lt j hj.mj
  apply c38
  unfold s38_p5
  refine nw_r fun w1 r1 hk1 hz1 => ?_
  replace r1 : Row w1 w.heap.size 34 l := r1
  try simp only [e_fd, e_nck, e_pkt, e_pkf, e_gdtt, e_gdtf, e_gdft, e_gdff, e_ift, e_iff, e_not, e_ln, e_lnT, e_cp, e_cvi, e_ex20, e_ex21, e_ex30, e_ex31, e_ex32, e_add, e_sub, e_mul, e_quo, e_rem, e_and, e_or, e_xor, e_shl, e_shr, e_eql, e_neq, e_lss, e_leq, e_gtr, e_geq, e_beq, e_bne, e_peq1, e_peq2, e_pne1, e_pne2, e_zeq1, e_zeq2, e_zne1, e_zne2, e_feq1, e_fne1, e_feq2, e_fne2, e_seq, e_sne, e_ta1, e_ta2, Nat.zero_add, Nat.add_zero, Bool.not_true, Bool.not_false]
  refine ldn_r r1 (by omega) ?_
  have el : (l.drop 0).take 14 = l := by rw [List.drop_zero, List.take_of_length_le (by omega)]
  rw [el]
  refine validConfig_ok (hc.kp' hk1) ⟨by have := cv.hz; omega, by have := cv.hz; omega⟩ fun w2 hk2 => ?_
  rw [hv]
  simp only [Bool.not_true, e_fd, e_nck, e_pkt, e_pkf, e_gdtt, e_gdtf, e_gdft, e_gdff, e_ift, e_iff, e_not, e_ln, e_lnT, e_cp, e_cvi, e_ex20, e_ex21, e_ex30, e_ex31, e_ex32, e_add, e_sub, e_mul, e_quo, e_rem, e_and, e_or, e_xor, e_shl, e_shr, e_eql, e_neq, e_lss, e_leq, e_gtr, e_geq, e_beq, e_bne, e_peq1, e_peq2, e_pne1, e_pne2, e_zeq1, e_zeq2, e_zne1, e_zne2, e_feq1, e_fne1, e_feq2, e_fne2, e_seq, e_sne, e_ta1, e_ta2, Nat.zero_add, Nat.add_zero, Bool.not_true, Bool.not_false]
  have k2 := hk1.trans hk2
  have s2z := k2.size
  unfold opnS at herr hok
  have e19 : ((19 : Int) != 0) = true := rfl
  have e00 : ((0 : Int) != 0) = false := rfl
  refine recover_ok (hj.kp' k2) ⟨fun ho => ?_, fun ho hl w3 hj3 hk3 => ?_, fun ho hl w3 sv lv hj3 hk3 hsv hlv => ?_⟩
  · rw [if_pos ho] at herr
    simp only [ex4_0, ex4_1, ex4_2, ex4_3, e19, e_fd, e_nck, e_pkt, e_pkf, e_gdtt, e_gdtf, e_gdft, e_gdff, e_ift, e_iff, e_not, e_ln, e_lnT, e_cp, e_cvi, e_ex20, e_ex21, e_ex30, e_ex31, e_ex32, e_add, e_sub, e_mul, e_quo, e_rem, e_and, e_or, e_xor, e_shl, e_shr, e_eql, e_neq, e_lss, e_leq, e_gtr, e_geq, e_beq, e_bne, e_peq1, e_peq2, e_pne1, e_pne2, e_zeq1, e_zeq2, e_zne1, e_zne2, e_feq1, e_fne1, e_feq2, e_fne2, e_seq, e_sne, e_ta1, e_ta2, Nat.zero_add, Nat.add_zero, Bool.not_true, Bool.not_false]
    refine er_new fun w3 ev hk3 her => ?_
    have k3 := k2.trans hk3
    exact herr rfl w3 M lob ev (Ext.same hj.lt k3) k3.none (fun b q => .inl q) (hj.kp' k3) her
  · rw [if_neg (by rw [ho]; decide), if_pos hl] at herr
    simp only [ex4_0, ex4_1, ex4_2, ex4_3, e19, e_fd, e_nck, e_pkt, e_pkf, e_gdtt, e_gdtf, e_gdft, e_gdff, e_ift, e_iff, e_not, e_ln, e_lnT, e_cp, e_cvi, e_ex20, e_ex21, e_ex30, e_ex31, e_ex32, e_add, e_sub, e_mul, e_quo, e_rem, e_and, e_or, e_xor, e_shl, e_shr, e_eql, e_neq, e_lss, e_leq, e_gtr, e_geq, e_beq, e_bne, e_peq1, e_peq2, e_pne1, e_pne2, e_zeq1, e_zeq2, e_zne1, e_zne2, e_feq1, e_fne1, e_feq2, e_fne2, e_seq, e_sne, e_ta1, e_ta2, Nat.zero_add, Nat.add_zero, Bool.not_true, Bool.not_false]
    refine er_new fun w4 ev hk4 her => ?_
    have k3 : Kp (OwnJ j lob) w w4 := (k2.none.trans (hk3.mono fun b _ (q : b = j) => .inl q)).trans hk4.none
    exact herr rfl w4 M lob ev (Ext.same hj.lt k3) k3 (fun b q => .inl q) (hj3.kp' hk4) her
  rw [if_neg (by rw [ho]; decide), if_neg hl] at herr hok
  have k3 : Kp (fun b => b = j) w w3 := k2.none.trans hk3
  have r3 := hk3.row (hk2.row' r1) (show ¬ w.heap.size = j by omega)
  simp only [ex4_0, ex4_1, ex4_2, ex4_3, e00, e_fd, e_nck, e_pkt, e_pkf, e_gdtt, e_gdtf, e_gdft, e_gdff, e_ift, e_iff, e_not, e_ln, e_lnT, e_cp, e_cvi, e_ex20, e_ex21, e_ex30, e_ex31, e_ex32, e_add, e_sub, e_mul, e_quo, e_rem, e_and, e_or, e_xor, e_shl, e_shr, e_eql, e_neq, e_lss, e_leq, e_gtr, e_geq, e_beq, e_bne, e_peq1, e_peq2, e_pne1, e_pne2, e_zeq1, e_zeq2, e_zne1, e_zne2, e_feq1, e_fne1, e_feq2, e_fne2, e_seq, e_sne, e_ta1, e_ta2, Nat.zero_add, Nat.add_zero, Bool.not_true, Bool.not_false]
  refine ldn_r r3 (by omega) ?_
  rw [el]
  refine blank_ok ((hc.kp' k2).kp hk3 hjF) cv.cok hj3 fun w4 M4 e m hx4 hk4 hmj hml hown he4 => ?_
  have s0 := Es.start he4
  have sz3 := k3.size
  have sz4 := hk4.size
  have hx04 : Ext M M4 w w4 := (Ext.same hj.lt k3).trans hx4
  have k04 : Kp (OwnJ j lob) w w4 := (k3.mono fun b _ (q : b = j) => Or.inl q).trans hk4.none
  -- what lies in the journal's copy is kept
  have keep : ∀ b, Im M w3 b → ¬ OwnE e m b := fun b hb q => by
    rcases hx4.new b (he4.own q) with q2 | q2
    · exact hb.1 q2
    · have := hb.2; omega
  have own0 : ∀ b, OwnE e m b → OwnJ j lob b ∨ w.heap.size ≤ b := fun b q => (hown b q).imp (fun q => q) fun q => by omega
  have helt : w.heap.size ≤ e := by
    rcases hown e (.inl rfl) with q | q
    · exfalso
      have := he4.neE (b := e) (.inr (.inr (.inl (by rw [hmj, hml]; exact q))))
      exact this rfl
    · omega
  have kfin : ∀ {w' : World}, Kp (OwnE e m) w4 w' → Kp (OwnJ j lob) w w' := fun hk => k04.then hk fun b hb q => by
    rcases own0 b q with q | q
    · exact q
    · omega
  have jfin : ∀ {w' : World} {M' : Nat → Prop} {m' : Me} {σ' : Sg} {J' : Jr}, Es M4 w4 e m C Emp w' M' m' σ' J' → Ext M M' w w' ∧ Kp (OwnJ j lob) w w' ∧ (∀ b, m'.lob = some b → lob = some b ∨ w.heap.size ≤ b) ∧ Jn M' w' j m'.lob J' ∧ m'.j = j ∧ (∀ b, OwnE e m' b → OwnJ j lob b ∨ w.heap.size ≤ b) := fun {w' M' m' σ' J'} s => by
    have hj' : m'.j = j := by rw [s.j, hmj]
    have ho : ∀ b, OwnE e m' b → OwnJ j lob b ∨ w.heap.size ≤ b := fun b q => by
      rcases s.o b q with q | q
      · exact own0 b q
      · exact .inr (by omega)
    refine ⟨hx04.trans s.x, kfin s.k, fun b q => ?_, by have := s.en.jn; rw [hj'] at this; exact this, hj', ho⟩
    rcases ho b (.inr (.inr (.inr (.inl (.inr q))))) with q2 | q2
    · rcases q2 with q2 | q2
      · exfalso
        obtain ⟨sv', lv', ra, _, evs', sa, _⟩ := s.en.jn.ex
        obtain ⟨la, hla⟩ := sa.row q
        have := row_ne hla (hj' ▸ ra) (by decide)
        exact this q2
      · exact .inl q2
    · exact .inr q2
  have hlen := hj.ok.len
  -- the entries
  have rest : ∀ (w5 : World) (M5 : Nat → Prop) (m5 : Me) (σ5 : Sg), Es M4 w4 e m C Emp w5 M5 m5 σ5 (dueJ J) → SGd C σ5 → opn1 C J = rplL C J.log σ5 → s38_p4 K lv (P e 0) w5 := by
    intro w5 M5 m5 σ5 s5 g5 hop
    rw [hop] at herr hok
    obtain ⟨evs, v1, v2, v3⟩ := hlv
    unfold s38_p4
    refine v1.ln ?_
    unfold s38_p3
    refine loop_n evs.length (fun i l w' => ∃ M' m' σ', l = [lv, P e 0, lv, I (evs.length : Nat), I (i : Nat)] ∧ Es M4 w4 e m C Emp w' M' m' σ' (dueJ J) ∧ SGd C σ' ∧ rplL C J.log σ5 = rplL C (J.log.drop i) σ') ⟨M5, m5, σ5, rfl, s5, g5, by rw [List.drop_zero]⟩ ?_ ?_
    · rintro i l w6 hi ⟨M6, m6, σ6, rfl, s6, g6, h6⟩ B hB
      rw [s38_p3_Fe]
      unfold s38_p2
      simp only [dlt hi, e_fd, e_nck, e_pkt, e_pkf, e_gdtt, e_gdtf, e_gdft, e_gdff, e_ift, e_iff, e_not, e_ln, e_lnT, e_cp, e_cvi, e_ex20, e_ex21, e_ex30, e_ex31, e_ex32, e_add, e_sub, e_mul, e_quo, e_rem, e_and, e_or, e_xor, e_shl, e_shr, e_eql, e_neq, e_lss, e_leq, e_gtr, e_geq, e_beq, e_bne, e_peq1, e_peq2, e_pne1, e_pne2, e_zeq1, e_zeq2, e_zne1, e_zne2, e_feq1, e_fne1, e_feq2, e_fne2, e_seq, e_sne, e_ta1, e_ta2, Nat.zero_add, Nat.add_zero, Bool.not_true, Bool.not_false]
      have kk : Kp (OwnE e m) w3 w6 := hk4.none.trans s6.k
      refine v1.ix hi fun b o hb hcc => ?_
      refine (hcc.kp kk (keep b hb)).ld0 rfl ?_
      have hi2 : i < J.log.length := by omega
      rw [List.drop_eq_getElem_cons hi2, rplL] at h6
      have hxa := Ar.kp (v3 i hi hi2) kk keep
      have wz := s6.k.size
      refine replay_ok cv g6 s6.en hxa (fun b hb => by have := hb.2; omega) (hby.l _ (List.getElem_mem hi2)) (fun hn w7 m7 M7 σ7 s7 hs7 => ?_) fun σ7 hsome w7 M7 m7 s7 => ?_
      · rw [hn] at h6
        rw [h6] at herr
        simp only [Bool.not_false, e_fd, e_nck, e_pkt, e_pkf, e_gdtt, e_gdtf, e_gdft, e_gdff, e_ift, e_iff, e_not, e_ln, e_lnT, e_cp, e_cvi, e_ex20, e_ex21, e_ex30, e_ex31, e_ex32, e_add, e_sub, e_mul, e_quo, e_rem, e_and, e_or, e_xor, e_shl, e_shr, e_eql, e_neq, e_lss, e_leq, e_gtr, e_geq, e_beq, e_bne, e_peq1, e_peq2, e_pne1, e_pne2, e_zeq1, e_zeq2, e_zne1, e_zne2, e_feq1, e_fne1, e_feq2, e_fne2, e_seq, e_sne, e_ta1, e_ta2, Nat.zero_add, Nat.add_zero, Bool.not_true, Bool.not_false]
        obtain ⟨va, vt, env, re⟩ := s7.row
        refine ld1_r re rfl ?_
        try simp only [e_fd, e_nck, e_pkt, e_pkf, e_gdtt, e_gdtf, e_gdft, e_gdff, e_ift, e_iff, e_not, e_ln, e_lnT, e_cp, e_cvi, e_ex20, e_ex21, e_ex30, e_ex31, e_ex32, e_add, e_sub, e_mul, e_quo, e_rem, e_and, e_or, e_xor, e_shl, e_shr, e_eql, e_neq, e_lss, e_leq, e_gtr, e_geq, e_beq, e_bne, e_peq1, e_peq2, e_pne1, e_pne2, e_zeq1, e_zeq2, e_zne1, e_zne2, e_feq1, e_fne1, e_feq2, e_fne2, e_seq, e_sne, e_ta1, e_ta2, Nat.zero_add, Nat.add_zero, Bool.not_true, Bool.not_false]
        have wb := wrap64_b (σ7.seq + 1)
        refine decimal_ok wb fun w8 s8 hk8 hs8 => ?_
        refine ⟨by show ((16 + s8.size : Nat) : Int) ≤ _; omega, ?_⟩
        refine er_new fun w9 ev hk9 her => ?_
        have t9 : Es M4 w4 e m C Emp w9 M7 m7 σ7 (dueJ J) := ((s6.own s7.x s7.k (fun b q => q) s7.j s7.o s7.en).emp hk8).emp hk9
        obtain ⟨a1, a2, a3, a4, a5, a6⟩ := jfin t9
        exact herr rfl w9 M7 m7.lob ev a1 a2 a3 a4 her
      · rw [hsome] at h6
        simp only [Bool.not_true, e_fd, e_nck, e_pkt, e_pkf, e_gdtt, e_gdtf, e_gdft, e_gdff, e_ift, e_iff, e_not, e_ln, e_lnT, e_cp, e_cvi, e_ex20, e_ex21, e_ex30, e_ex31, e_ex32, e_add, e_sub, e_mul, e_quo, e_rem, e_and, e_or, e_xor, e_shl, e_shr, e_eql, e_neq, e_lss, e_leq, e_gtr, e_geq, e_beq, e_bne, e_peq1, e_peq2, e_pne1, e_pne2, e_zeq1, e_zeq2, e_zne1, e_zne2, e_feq1, e_fne1, e_feq2, e_fne2, e_seq, e_sne, e_ta1, e_ta2, Nat.zero_add, Nat.add_zero, Bool.not_true, Bool.not_false]
        rw [inc i (by omega)]
        exact hB _ _ ⟨M7, m7, σ7, rfl, s6.own s7.x s7.k (fun b q => q) s7.j s7.o s7.en, rplS_gd cv g6 hsome, h6⟩
    · rintro l w6 ⟨M6, m6, σ6, rfl, s6, g6, h6⟩ B
      rw [s38_p3_Fe]
      unfold s38_p2
      simp only [dnlt, e_fd, e_nck, e_pkt, e_pkf, e_gdtt, e_gdtf, e_gdft, e_gdff, e_ift, e_iff, e_not, e_ln, e_lnT, e_cp, e_cvi, e_ex20, e_ex21, e_ex30, e_ex31, e_ex32, e_add, e_sub, e_mul, e_quo, e_rem, e_and, e_or, e_xor, e_shl, e_shr, e_eql, e_neq, e_lss, e_leq, e_gtr, e_geq, e_beq, e_bne, e_peq1, e_peq2, e_pne1, e_pne2, e_zeq1, e_zeq2, e_zne1, e_zne2, e_feq1, e_fne1, e_feq2, e_fne2, e_seq, e_sne, e_ta1, e_ta2, Nat.zero_add, Nat.add_zero, Bool.not_true, Bool.not_false]
      rw [v2, List.drop_length, rplL] at h6
      rw [h6] at herr hok
      simp only at herr hok
      unfold s38_p1
      refine v1.ln ?_
      try simp only [e_fd, e_nck, e_pkt, e_pkf, e_gdtt, e_gdtf, e_gdft, e_gdff, e_ift, e_iff, e_not, e_ln, e_lnT, e_cp, e_cvi, e_ex20, e_ex21, e_ex30, e_ex31, e_ex32, e_add, e_sub, e_mul, e_quo, e_rem, e_and, e_or, e_xor, e_shl, e_shr, e_eql, e_neq, e_lss, e_leq, e_gtr, e_geq, e_beq, e_bne, e_peq1, e_peq2, e_pne1, e_pne2, e_zeq1, e_zeq2, e_zne1, e_zne2, e_feq1, e_fne1, e_feq2, e_fne2, e_seq, e_sne, e_ta1, e_ta2, Nat.zero_add, Nat.add_zero, Bool.not_true, Bool.not_false]
      rw [v2]
      refine s6.st { σ6 with tail := (J.log.length : Nat) } (by decide) rfl (fun va vt env => rfl) rfl ⟨rfl, rfl⟩ s6.en.rf fun w7 s7 hk7 hz7 => ?_
      refine aftE_ok (σ := { σ6 with tail := (J.log.length : Nat) }) cv hmb g6 s7.en (s7.step fun w8 M8 m8 s8 hk8 => ?_)
      generalize aftS C { σ6 with tail := (J.log.length : Nat) } (dueJ J) = r at herr hok s8 ⊢
      simp only [nei, e_fd, e_nck, e_pkt, e_pkf, e_gdtt, e_gdtf, e_gdft, e_gdff, e_ift, e_iff, e_not, e_ln, e_lnT, e_cp, e_cvi, e_ex20, e_ex21, e_ex30, e_ex31, e_ex32, e_add, e_sub, e_mul, e_quo, e_rem, e_and, e_or, e_xor, e_shl, e_shr, e_eql, e_neq, e_lss, e_leq, e_gtr, e_geq, e_beq, e_bne, e_peq1, e_peq2, e_pne1, e_pne2, e_zeq1, e_zeq2, e_zne1, e_zne2, e_feq1, e_fne1, e_feq2, e_fne2, e_seq, e_sne, e_ta1, e_ta2, Nat.zero_add, Nat.add_zero, Bool.not_true, Bool.not_false]
      obtain ⟨a1, a2, a3, a4, a5, a6⟩ := jfin s8
      by_cases h0 : r.2.2 = 0
      · rw [if_pos h0] at hok
        simp only [h0, decide_true, Bool.not_true, e_fd, e_nck, e_pkt, e_pkf, e_gdtt, e_gdtf, e_gdft, e_gdff, e_ift, e_iff, e_not, e_ln, e_lnT, e_cp, e_cvi, e_ex20, e_ex21, e_ex30, e_ex31, e_ex32, e_add, e_sub, e_mul, e_quo, e_rem, e_and, e_or, e_xor, e_shl, e_shr, e_eql, e_neq, e_lss, e_leq, e_gtr, e_geq, e_beq, e_bne, e_peq1, e_peq2, e_pne1, e_pne2, e_zeq1, e_zeq2, e_zne1, e_zne2, e_feq1, e_fne1, e_feq2, e_fne2, e_seq, e_sne, e_ta1, e_ta2, Nat.zero_add, Nat.add_zero, Bool.not_true, Bool.not_false]
        exact hok _ rfl w8 M8 e m8 a1 a2 a5 a6 helt s8.en
      · rw [if_neg h0] at herr
        simp only [h0, decide_false, Bool.not_false, e_fd, e_nck, e_pkt, e_pkf, e_gdtt, e_gdtf, e_gdft, e_gdff, e_ift, e_iff, e_not, e_ln, e_lnT, e_cp, e_cvi, e_ex20, e_ex21, e_ex30, e_ex31, e_ex32, e_add, e_sub, e_mul, e_quo, e_rem, e_and, e_or, e_xor, e_shl, e_shr, e_eql, e_neq, e_lss, e_leq, e_gtr, e_geq, e_beq, e_bne, e_peq1, e_peq2, e_pne1, e_pne2, e_zeq1, e_zeq2, e_zne1, e_zne2, e_feq1, e_fne1, e_feq2, e_fne2, e_seq, e_sne, e_ta1, e_ta2, Nat.zero_add, Nat.add_zero, Bool.not_true, Bool.not_false]
        refine er_new fun w9 ev hk9 her => ?_
        obtain ⟨a1, a2, a3, a4, a5, a6⟩ := jfin (s8.emp hk9)
        exact herr rfl w9 M8 m8.lob ev a1 a2 a3 a4 her
  cases hh : J.has with
  | false =>
    try simp only [e_fd, e_nck, e_pkt, e_pkf, e_gdtt, e_gdtf, e_gdft, e_gdff, e_ift, e_iff, e_not, e_ln, e_lnT, e_cp, e_cvi, e_ex20, e_ex21, e_ex30, e_ex31, e_ex32, e_add, e_sub, e_mul, e_quo, e_rem, e_and, e_or, e_xor, e_shl, e_shr, e_eql, e_neq, e_lss, e_leq, e_gtr, e_geq, e_beq, e_bne, e_peq1, e_peq2, e_pne1, e_pne2, e_zeq1, e_zeq2, e_zne1, e_zne2, e_feq1, e_fne1, e_feq2, e_fne2, e_seq, e_sne, e_ta1, e_ta2, Nat.zero_add, Nat.add_zero, Bool.not_true, Bool.not_false]
    have e1 : opn1 C J = rplL C J.log (sg0 C) := by unfold opn1 opn0; rw [hh]; rfl
    exact rest w4 M4 m (sg0 C) s0 (Gd.zero cv) e1
  | true =>
    try simp only [e_fd, e_nck, e_pkt, e_pkf, e_gdtt, e_gdtf, e_gdft, e_gdff, e_ift, e_iff, e_not, e_ln, e_lnT, e_cp, e_cvi, e_ex20, e_ex21, e_ex30, e_ex31, e_ex32, e_add, e_sub, e_mul, e_quo, e_rem, e_and, e_or, e_xor, e_shl, e_shr, e_eql, e_neq, e_lss, e_leq, e_gtr, e_geq, e_beq, e_bne, e_peq1, e_peq2, e_pne1, e_pne2, e_zeq1, e_zeq2, e_zne1, e_zne2, e_feq1, e_fne1, e_feq2, e_fne2, e_seq, e_sne, e_ta1, e_ta2, Nat.zero_add, Nat.add_zero, Bool.not_true, Bool.not_false]
    have hsv4 := hsv.kp' hk4
    refine restore_ok he4 cv hsv4 (fun b hb => by have := hb.2; omega) hby.s hby.n (fun hno w5 hk5 => ?_) fun hd hch w5 M5 m5 hx5 hk5 hj5 hl5 ho5 h5 => ?_
    · simp only [Bool.not_false, e_fd, e_nck, e_pkt, e_pkf, e_gdtt, e_gdtf, e_gdft, e_gdff, e_ift, e_iff, e_not, e_ln, e_lnT, e_cp, e_cvi, e_ex20, e_ex21, e_ex30, e_ex31, e_ex32, e_add, e_sub, e_mul, e_quo, e_rem, e_and, e_or, e_xor, e_shl, e_shr, e_eql, e_neq, e_lss, e_leq, e_gtr, e_geq, e_beq, e_bne, e_peq1, e_peq2, e_pne1, e_pne2, e_zeq1, e_zeq2, e_zne1, e_zne2, e_feq1, e_fne1, e_feq2, e_fne2, e_seq, e_sne, e_ta1, e_ta2, Nat.zero_add, Nat.add_zero, Bool.not_true, Bool.not_false]
      have e1 : opn1 C J = none := by
        unfold opn1 opn0
        rw [hh]
        rw [if_pos rfl, if_neg (by rcases hno with q | q <;> simp [q])]
      rw [e1] at herr
      refine er_new fun w6 ev hk6 her => ?_
      obtain ⟨a1, a2, a3, a4, a5, a6⟩ := jfin ((s0.emp hk5).emp hk6)
      exact herr rfl w6 M4 m.lob ev a1 a2 a3 a4 her
    · simp only [Bool.not_true, e_fd, e_nck, e_pkt, e_pkf, e_gdtt, e_gdtf, e_gdft, e_gdff, e_ift, e_iff, e_not, e_ln, e_lnT, e_cp, e_cvi, e_ex20, e_ex21, e_ex30, e_ex31, e_ex32, e_add, e_sub, e_mul, e_quo, e_rem, e_and, e_or, e_xor, e_shl, e_shr, e_eql, e_neq, e_lss, e_leq, e_gtr, e_geq, e_beq, e_bne, e_peq1, e_peq2, e_pne1, e_pne2, e_zeq1, e_zeq2, e_zne1, e_zne2, e_feq1, e_fne1, e_feq2, e_fne2, e_seq, e_sne, e_ta1, e_ta2, Nat.zero_add, Nat.add_zero, Bool.not_true, Bool.not_false]
      have s5 := s0.own hx5 hk5 (fun b (q : b = e) => .inl q) hj5 ho5 h5
      refine s5.st { (sg0 C).im (decImg J.snap).1 with res := true } (by decide) rfl (fun va vt env => rfl) rfl ⟨rfl, rfl⟩ s5.en.rf fun w6 s6 hk6 hz6 => ?_
      have e1 : opn1 C J = rplL C J.log { (sg0 C).im (decImg J.snap).1 with res := true } := by
        unfold opn1 opn0
        rw [hh]
        rw [if_pos rfl, if_pos ⟨hd, hch⟩]
      exact rest w6 M5 m5 _ s6 (Gd.of cv hch (decImg_N hby.n hd).1) e1
end
end Go.Proofs.Qxb6500896aGreat
