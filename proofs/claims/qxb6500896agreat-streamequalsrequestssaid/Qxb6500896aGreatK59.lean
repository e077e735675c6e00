import Derived.Test.Qxb6500896aGreatK58
namespace Go.Proofs.Qxb6500896aGreat
open Go.Sh Go.RowKit
set_option linter.unusedVariables false
set_option linter.unusedSimpArgs false

theorem XprN.rq {q : Rq} (h : XprN q) : RqN q := ⟨by have := h.op; omega, h.id.2, h.at'.2, h.sl.2, h.cl.2, h.sz.2, h.li.2, fun l hl => ⟨(h.lg l hl).1.2, (h.lg l hl).2.2⟩⟩
theorem XprN.x {q : Rq} (h : XprN q) : xpr q = true := by
  unfold xpr isQ isC
  simp only [Bool.and_eq_true, Bool.or_eq_true, decide_eq_true_eq, List.all_eq_true]
  exact ⟨⟨⟨⟨⟨⟨⟨⟨h.id.1, h.at'.1⟩, h.sl.1⟩, h.cl.1⟩, h.sz.1⟩, h.li.1⟩, h.ll⟩, fun l hl => ⟨(h.lg l hl).1.1, (h.lg l hl).2.1⟩⟩, h.op⟩
/-- what a request that can change the state does, and its answer -/
def chgS (C : Cfg) (q : Rq) (σ : Sg) (J : Jr) : Sg × Jr × Rp :=
  let x := ent (σ.seq + 1) q
  let r := roomS C { σ with ent := x } J ((x.length : Nat) : Int)
  if r.2.2 = 0 then
    let a := apS C q r.1
    if a.2.code = 0 then
      let y := wrtS a.1 r.2.1 x
      if y.2.2 = 0 then ({ y.1 with sg := w1 y.1.sg }, y.2.1, a.2) else (refS y.2.2 y.1, y.2.1, rf y.2.2)
    else (refS a.2.code a.1, r.2.1, rf a.2.code)
  else (refS r.2.2 r.1, r.2.1, rf r.2.2)
theorem enc_len {q : Rq} (h : q.legs.length ≤ 8) : (enc q).length ≤ 200 := by
  unfold enc encB encLegs
  have h1 := uI_len q.cl
  have h2 := uI_len q.sz
  have h3 := encLs_len q.legs
  have h4 := uI_len (q.legs.length : Nat)
  have h5 := uI_len q.id
  have h6 := uI_len q.at'
  have h7 := uI_len q.sl
  have h8 := uI_len q.li
  repeat' split
  all_goals simp only [List.length_append, List.length_cons, List.length_nil]
  all_goals omega
theorem ent_len {s : Int} {q : Rq} (h : q.legs.length ≤ 8) : 0 < (ent s q).length ∧ (ent s q).length ≤ 300 := by
  unfold ent
  have h1 := uI_len s
  have h2 := enc_len h
  have h3 : 0 < (enc q).length := by unfold enc; simp
  rw [List.length_append]
  omega
theorem apS_keep (C : Cfg) (q : Rq) (σ : Sg) : (apS C q σ).1.ent = σ.ent ∧ (apS C q σ).1.seq = σ.seq ∧ (apS C q σ).1.tail = σ.tail ∧ (apS C q σ).1.loose = σ.loose := by
  unfold apS mvS tkS
  repeat' split
  all_goals exact ⟨rfl, rfl, rfl, rfl⟩
section
variable {F G M0 M M' S V : Nat → Prop} {w w' w0 w1 w4 : World} {v v' rv lv iv va vt env : Value} {l : List Value} {n wb e t b c pb : Nat} {C : Cfg} {K : Value → World → Prop} {m0 m m' m4 : Me} {σ σ' : Sg} {J J' : Jr} {q : Rq} {p : Rp} {code : Int} {ob' : Option Nat} {ys : List Int}
theorem Es.step2 {X : World → Me → Prop} (s : Es M0 w0 e m0 C V w M m σ J) (hX : ∀ w' M' m', Es M0 w0 e m0 C V w' M' m' σ' J' → Kp (OwnE e m) w w' → (∀ b, OwnE e m' b → OwnE e m b ∨ w.heap.size ≤ b) → X w' m') : EnK M w e m C σ' J' X := fun w' M' m' hx hk hj ho h =>
  hX w' M' m' (s.own hx hk (fun b q => q) hj ho h) hk ho
theorem en_set (hl : σ.rf.length = 23) : (C.cells va vt ++ σ.cells m env).set 51 v' = C.cells va vt ++ ({ σ with ent := ys } : Sg).cells { m with en := ob' } v' := by
  unfold Sg.cells
  rw [← List.append_assoc, List.set_append_right _ _ (by simp [Cfg.cells]), show 51 - _ = 23 from by simp [Cfg.cells], List.set_append_right _ _ (by simp; omega), show 23 - (List.map I σ.rf).length = 0 by rw [List.length_map]; omega, List.append_assoc]
  rfl
theorem en_get (hl : σ.rf.length = 23) : (C.cells va vt ++ σ.cells m env)[51]? = some env := by
  unfold Sg.cells
  rw [← List.append_assoc, List.getElem?_append_right (by simp [Cfg.cells]), show 51 - _ = 23 from by simp [Cfg.cells], List.getElem?_append_right (by simp; omega), show 23 - (List.map I σ.rf).length = 0 by rw [List.length_map]; omega]
  rfl
theorem en_len (hl : σ.rf.length = 23) : (C.cells va vt ++ σ.cells m env).length = 52 := by
  unfold Sg.cells
  simp [Cfg.cells]; omega
/-- the entry is written and kept -/
theorem En.entry {kk : World → Prop} (h : En M w e m C σ J) (hk : Kp (fun b => m.en = some b) w w') (hs' : Sl bC 1 w' 5 ob' v' ys) (ho : ob' = m.en ∨ ∃ b, ob' = some b ∧ w.heap.size ≤ b)
    (hK : ∀ w'' M', Ext M M' w w'' → En M' w'' e { m with en := ob' } C { σ with ent := ys } J → Kp (fun b => m.en = some b ∨ b = e) w w'' → kk w'') : st1 (P e 51) v' kk w' := by
  have hne := fun {b : Nat} => h.neE (b := b)
  have h0 := h
  obtain ⟨va, vt, env, r, hc, hs, hm⟩ := h.ex
  have r' := hk.row r fun q => hne (.inr (.inr (.inr q))) rfl
  have hvs := sl_scal hs'
  have obe : ∀ b, ob' = some b → b ≠ e := fun b q => by
    obtain ⟨l2, hl2⟩ := hs'.row q
    exact row_ne hl2 r' (by decide)
  refine st1_r r' (by rw [en_len h.rf]; decide) hvs fun w2 r2 hk2 hz2 => ?_
  rw [en_set (ob' := ob') (ys := ys) h.rf] at r2
  have kk2 : Kp (fun b => m.en = some b ∨ b = e) w w2 := (hk.mono fun b _ q => .inl q).trans (hk2.mono fun b _ q => .inr q)
  have hx : Ext M (fun b => M b ∨ ob' = some b) w w2 := Ext.add? h.lt kk2 (fun b q => by
    rcases ho with q2 | ⟨c, q2, hc⟩
    · exact .inl (hm b (q2 ▸ q))
    · rw [q2] at q; cases q; exact .inr hc) (fun b q => by
    obtain ⟨l2, hl2⟩ := hs'.row q
    have := hl2.lt
    omega)
  have hS : ∀ b, m.en = some b ∨ b = e → b < w.heap.size → M b := fun b q _ => q.elim (hm b) (fun q => q ▸ h.me)
  refine hK w2 _ hx ⟨⟨va, vt, v', r2, hc.ext hx kk2 hS, hs'.kp hk2 (fun b q q2 => obe b q q2), fun b q => .inr q⟩, h.tb.ext hx kk2 hS fun b q q2 => ?_, h.li.ext hx kk2 hS fun b q q2 => ?_, h.jn.ext hx kk2 hS fun b q q2 => ?_, .inl h.me, h.rf⟩ kk2
  · exact q2.elim (h0.dTN q) (hne (.inl q))
  · exact q2.elim (h0.dLN q) (hne (.inr (.inl q)))
  · exact q2.elim (h0.dJN q) (hne (.inr (.inr (.inl q))))
set_option maxHeartbeats 1000000 in
theorem chgE_ok (cv : CV C) (hmb : C.mb ≤ 1000000) (g : Gd C σ.seq σ.now σ.rs σ.ls) (h : En M w e m C σ J) (hq : Qv (Im M w) w l q) (hN : XprN q) (hv : valid C σ.now q = 0)
    (hs : σ.seq + 1 ≤ 9223372036854775807) (hb : ∀ r : Sg × Jr × Int, r = roomS C { σ with ent := ent (σ.seq + 1) q } J (((ent (σ.seq + 1) q).length : Nat) : Int) → (0 ≤ r.1.tail ∧ r.1.tail ≤ 1000000000000) ∧ (0 ≤ r.1.loose ∧ r.1.loose ≤ 1000000000000))
    (hK : EnK M w e m C (chgS C q σ J).1 (chgS C q σ J).2.1 fun w' m' => ∀ l, Rv (Fb w e w' m') w' l (chgS C q σ J).2.2 → K (.agg l.toArray) w') : cl Tryz.prog 186 #[P e 0, .agg l.toArray] K w := by
  obtain ⟨lv, rfl, hl⟩ := hq
  have hsc := hl.scal
  have hrf := h.rf
  have hseq := g.seq
  have hnow := g.now
  obtain ⟨el0, el1⟩ := ent_len (s := σ.seq + 1) hN.ll
  apply c186
  unfold s186_p3
  refine nw_r fun w1 r1 hk1 hz1 => ?_
  replace r1 : Row w1 w.heap.size 52 (q.cells lv) := r1
  refine nw_r fun w2 r2 hk2 hz2 => ?_
  replace r2 : Row w2 w1.heap.size 94 (rp0.cells nilS nilS nilS) := r2
  have r12 := hk2.row' r1
  have s2 := (((Es.start h).new hk1 (Nat.le_refl _) (by omega)).new hk2 (Nat.le_refl _) (by omega))
  have k2 := hk1.trans hk2
  unfold s186_p2 s186_p2_d
  have kd : Kp Emp w2 (drw w2) := kp_drw
  have szd : (drw w2).heap.size = w2.heap.size := rfl
  generalize drw w2 = w3 at kd szd ⊢
  have s3 := s2.emp kd
  have k3 := k2.trans kd
  have q3 := kd.row' r12
  have p3 := kd.row' r2
  have ldq : ∀ {w' : World} {X : Value → World → Prop}, Row w' w.heap.size 52 (q.cells lv) → X (.agg (q.cells lv).toArray) w' → ldn 8 (P w.heap.size 0) X w' := fun r hX => ldn_r r (show 0 + 8 ≤ 8 by decide) hX
  obtain ⟨va, vt, env, re, _, sen, men⟩ := s3.en.ex
  try simp only [e_fd, e_nck, e_pkt, e_pkf, e_gdtt, e_gdtf, e_gdft, e_gdff, e_ift, e_iff, e_not, e_ln, e_lnT, e_cp, e_cvi, e_ex20, e_ex21, e_ex30, e_ex31, e_ex32, e_add, e_sub, e_mul, e_quo, e_rem, e_and, e_or, e_xor, e_shl, e_shr, e_eql, e_neq, e_lss, e_leq, e_gtr, e_geq, e_beq, e_bne, e_peq1, e_peq2, e_pne1, e_pne2, e_zeq1, e_zeq2, e_zne1, e_zne2, e_feq1, e_fne1, e_feq2, e_fne2, e_seq, e_sne, e_ta1, e_ta2, Nat.zero_add, Nat.add_zero, Bool.not_true, Bool.not_false]
  refine ld1_r re (en_get hrf) ?_
  refine sl_take (n := 0) bC_len sen (Nat.zero_le _) fun v3 sv3 => ?_
  rw [List.take_zero] at sv3
  try simp only [e_fd, e_nck, e_pkt, e_pkf, e_gdtt, e_gdtf, e_gdft, e_gdff, e_ift, e_iff, e_not, e_ln, e_lnT, e_cp, e_cvi, e_ex20, e_ex21, e_ex30, e_ex31, e_ex32, e_add, e_sub, e_mul, e_quo, e_rem, e_and, e_or, e_xor, e_shl, e_shr, e_eql, e_neq, e_lss, e_leq, e_gtr, e_geq, e_beq, e_bne, e_peq1, e_peq2, e_pne1, e_pne2, e_zeq1, e_zeq2, e_zne1, e_zne2, e_feq1, e_fne1, e_feq2, e_fne2, e_seq, e_sne, e_ta1, e_ta2, Nat.zero_add, Nat.add_zero, Bool.not_true, Bool.not_false]
  refine ld1_r re rfl ?_
  try simp only [e_fd, e_nck, e_pkt, e_pkf, e_gdtt, e_gdtf, e_gdft, e_gdff, e_ift, e_iff, e_not, e_ln, e_lnT, e_cp, e_cvi, e_ex20, e_ex21, e_ex30, e_ex31, e_ex32, e_add, e_sub, e_mul, e_quo, e_rem, e_and, e_or, e_xor, e_shl, e_shr, e_eql, e_neq, e_lss, e_leq, e_gtr, e_geq, e_beq, e_bne, e_peq1, e_peq2, e_pne1, e_pne2, e_zeq1, e_zeq2, e_zne1, e_zne2, e_feq1, e_fne1, e_feq2, e_fne2, e_seq, e_sne, e_ta1, e_ta2, Nat.zero_add, Nat.add_zero, Bool.not_true, Bool.not_false]
  rw [wrap64_id (by omega) (by omega)]
  refine ldq q3 ?_
  have hlM : ∀ b, Im M w b → m.en ≠ some b := fun b hb q => hb.1 (h.own (.inr (.inr (.inr (.inr q)))))
  refine appEnt_ok (F := Im M w) sv3 (by simp) ⟨by omega, hs⟩ ⟨lv, rfl, hl.kp' k3⟩ hN.rq hN.x hlM (fun b q => by have := q.2; omega) fun w4 v4 ob4 sv4 hk4 ho4 => ?_
  rw [List.nil_append] at sv4
  refine s3.en.entry hk4 sv4 ho4 fun w5 M5 hx5 h5 hk5 => ?_
  have s5 := s3.own (m' := { m with en := ob4 }) hx5 hk5 (fun b q => q.elim (fun q => .inr (.inr (.inr (.inr q)))) .inl) rfl (fun b q => by
    rcases q with q | q | q | q | q
    · exact .inl (.inl q)
    · exact .inl (.inr (.inl q))
    · exact .inl (.inr (.inr (.inl q)))
    · exact .inl (.inr (.inr (.inr (.inl q))))
    · rcases ho4 with q2 | ⟨c, q2, hc⟩
      · exact .inl (.inr (.inr (.inr (.inr (q2 ▸ q)))))
      · have : ob4 = some b := q
        rw [q2] at this; cases this; exact .inr hc) h5
  have nq5 : ∀ c, (Emp c ∨ c = w.heap.size) ∨ c = w1.heap.size → ¬ (m.en = some c ∨ c = e) := fun c hc q => (s3.v c hc).2.1 (q.elim (fun q => .inr (.inr (.inr (.inr q)))) .inl)
  have q5 := hk5.row q3 (nq5 _ (.inl (.inr rfl)))
  have p5 := hk5.row p3 (nq5 _ (.inr rfl))
  have k5 : Kp (OwnE e m) w w5 := s5.k
  have hl5 : Ar lC 2 (Im M w) w5 lv q.legs := hl.kp k5 fun b hb q => hb.1 (h.own q)
  clear re sen men sv3 sv4
  -- the end of every way out
  have out : ∀ {σ' : Sg} {J' : Jr} {p : Rp} {w6 : World} {M6 : Nat → Prop} {m6 : Me} {V : Nat → Prop} {l : List Value}, Es M w e m C V w6 M6 m6 σ' J' → V w1.heap.size → Row w6 w1.heap.size 94 (rp0.cells nilS nilS nilS) → Rv (fun b => w2.heap.size ≤ b ∧ b < w6.heap.size ∧ ¬ OwnE e m6 b) w6 l p → (EnK M w e m C σ' J' fun w' m' => ∀ l, Rv (Fb w e w' m') w' l p → K (.agg l.toArray) w') →
      stn 34 (P w1.heap.size 0) (.agg l.toArray) (fun w => ldn 34 (P w1.heap.size 0) (fun r0 _ => K r0 w) w) w6 := by
    intro σ' J' p w6 M6 m6 V l s6 hV p6 rv hK
    have hlen := rv.len
    refine stn_r (cs := l) p6 hlen (show 0 + 34 ≤ 34 by decide) rv.sc fun w7 r7 hk7 hz7 => ?_
    rw [List.take_zero, List.nil_append, Nat.zero_add, List.drop_of_length_le (by decide), List.append_nil] at r7
    refine ldn_r r7 (by omega) ?_
    rw [List.drop_zero, List.take_of_length_le (by omega)]
    refine (s6.wr hk7 fun b (q : b = _) => q ▸ hV).done hK _ ((rv.kp hk7 fun b hb (q : b = _) => by have := hb.1; omega).mono fun b hb => ⟨by have := hb.1; omega, by have := hb.2.1; omega, hb.2.2⟩)
  unfold s186_p1
  obtain ⟨va, vt, env, re, _, sen, men⟩ := s5.en.ex
  try simp only [e_fd, e_nck, e_pkt, e_pkf, e_gdtt, e_gdtf, e_gdft, e_gdff, e_ift, e_iff, e_not, e_ln, e_lnT, e_cp, e_cvi, e_ex20, e_ex21, e_ex30, e_ex31, e_ex32, e_add, e_sub, e_mul, e_quo, e_rem, e_and, e_or, e_xor, e_shl, e_shr, e_eql, e_neq, e_lss, e_leq, e_gtr, e_geq, e_beq, e_bne, e_peq1, e_peq2, e_pne1, e_pne2, e_zeq1, e_zeq2, e_zne1, e_zne2, e_feq1, e_fne1, e_feq2, e_fne2, e_seq, e_sne, e_ta1, e_ta2, Nat.zero_add, Nat.add_zero, Bool.not_true, Bool.not_false]
  refine ld1_r re (en_get hrf) ?_
  refine sen.ln ?_
  unfold chgS at hK
  simp only at hK
  have gs : Gd C ({ σ with ent := ent (σ.seq + 1) q } : Sg).seq ({ σ with ent := ent (σ.seq + 1) q } : Sg).now ({ σ with ent := ent (σ.seq + 1) q } : Sg).rs ({ σ with ent := ent (σ.seq + 1) q } : Sg).ls := g
  have hsame := roomS_same C { σ with ent := ent (σ.seq + 1) q } J (((ent (σ.seq + 1) q).length : Nat) : Int)
  have hbb := hb _ rfl
  clear re sen men
  refine roomE_ok cv hmb gs s5.en (s5.step fun w6 M6 m6 s6 hk6 => ?_)
  generalize roomS C { σ with ent := ent (σ.seq + 1) q } J (((ent (σ.seq + 1) q).length : Nat) : Int) = r at hK s6 hsame hbb ⊢
  have q6 := hk6.row q5 (s5.v _ (.inl (.inr rfl))).2.1
  have p6 := hk6.row p5 (s5.v _ (.inr rfl)).2.1
  have hl6 : Ar lC 2 (Im M w) w6 lv q.legs := hl.kp s6.k fun b hb q => hb.1 (h.own q)
  have g6 := hsame.gd gs
  simp only [nei, e_fd, e_nck, e_pkt, e_pkf, e_gdtt, e_gdtf, e_gdft, e_gdff, e_ift, e_iff, e_not, e_ln, e_lnT, e_cp, e_cvi, e_ex20, e_ex21, e_ex30, e_ex31, e_ex32, e_add, e_sub, e_mul, e_quo, e_rem, e_and, e_or, e_xor, e_shl, e_shr, e_eql, e_neq, e_lss, e_leq, e_gtr, e_geq, e_beq, e_bne, e_peq1, e_peq2, e_pne1, e_pne2, e_zeq1, e_zeq2, e_zne1, e_zne2, e_feq1, e_fne1, e_feq2, e_fne2, e_seq, e_sne, e_ta1, e_ta2, Nat.zero_add, Nat.add_zero, Bool.not_true, Bool.not_false]
  by_cases h3 : r.2.2 = 0
  · rw [if_pos h3] at hK
    simp only [h3, decide_true, Bool.not_true, e_fd, e_nck, e_pkt, e_pkf, e_gdtt, e_gdtf, e_gdft, e_gdff, e_ift, e_iff, e_not, e_ln, e_lnT, e_cp, e_cvi, e_ex20, e_ex21, e_ex30, e_ex31, e_ex32, e_add, e_sub, e_mul, e_quo, e_rem, e_and, e_or, e_xor, e_shl, e_shr, e_eql, e_neq, e_lss, e_leq, e_gtr, e_geq, e_beq, e_bne, e_peq1, e_peq2, e_pne1, e_pne2, e_zeq1, e_zeq2, e_zne1, e_zne2, e_feq1, e_fne1, e_feq2, e_fne2, e_seq, e_sne, e_ta1, e_ta2, Nat.zero_add, Nat.add_zero, Bool.not_true, Bool.not_false]
    refine ldq q6 ?_
    have v6 : valid C r.1.now q = 0 := by rw [hsame.now]; exact hv
    have sz6 := s6.k.size
    refine apply_ok cv g6 s6.en ⟨lv, rfl, hl6⟩ (fun b q => by have := q.2; omega) hN v6 (s6.step fun w7 M7 m7 s7 hk7 l7 rv7 => ?_)
    have q7 := hk7.row q6 (s6.v _ (.inl (.inr rfl))).2.1
    have p7 := hk7.row p6 (s6.v _ (.inr rfl)).2.1
    have sz56 : w2.heap.size ≤ w6.heap.size := by have := hk5.size; have := hk6.size; omega
    have hl7 := rv7.len
    have hs7 := rv7.sc
    refine nw_r fun w8 r8 hk8 hz8 => ?_
    refine stn_r (cs := l7) r8 hl7 (show 0 + 34 ≤ 34 by decide) hs7 fun w9 r9 hk9 hz9 => ?_
    replace r9 : Row w9 w7.heap.size 94 (l7 ++ []) := by
      have e9 : List.drop (0 + 34) zRep.toList = [] := rfl
      exact r9
    rw [List.append_nil] at r9
    have s9 := (s7.new hk8 (Nat.le_refl _) (by omega)).wr hk9 fun b (q : b = _) => .inr q
    have lq := q7.lt
    have lp := p7.lt
    have q9 := hk9.row (hk8.row' q7) (show ¬ w.heap.size = _ by omega)
    have p9 := hk9.row (hk8.row' p7) (show ¬ w1.heap.size = _ by omega)
    have rv9 := ((rv7.kp hk8 fun _ _ q => q).kp hk9 fun b hb (q : b = _) => by have := hb.2.1; omega)
    obtain ⟨iv, rvv, wv, el7, a1, a2, a3, a4⟩ := rv7
    have e0 : l7[0]? = some (I (apS C q r.1).2.code) := by rw [el7]; rfl
    have e34 : ((l7.drop 0).take 34) = l7 := by rw [List.drop_zero, List.take_of_length_le (by omega)]
    try simp only [e_fd, e_nck, e_pkt, e_pkf, e_gdtt, e_gdtf, e_gdft, e_gdff, e_ift, e_iff, e_not, e_ln, e_lnT, e_cp, e_cvi, e_ex20, e_ex21, e_ex30, e_ex31, e_ex32, e_add, e_sub, e_mul, e_quo, e_rem, e_and, e_or, e_xor, e_shl, e_shr, e_eql, e_neq, e_lss, e_leq, e_gtr, e_geq, e_beq, e_bne, e_peq1, e_peq2, e_pne1, e_pne2, e_zeq1, e_zeq2, e_zne1, e_zne2, e_feq1, e_fne1, e_feq2, e_fne2, e_seq, e_sne, e_ta1, e_ta2, Nat.zero_add, Nat.add_zero, Bool.not_true, Bool.not_false]
    refine ld1_r r9 e0 ?_
    simp only [nei, e_fd, e_nck, e_pkt, e_pkf, e_gdtt, e_gdtf, e_gdft, e_gdff, e_ift, e_iff, e_not, e_ln, e_lnT, e_cp, e_cvi, e_ex20, e_ex21, e_ex30, e_ex31, e_ex32, e_add, e_sub, e_mul, e_quo, e_rem, e_and, e_or, e_xor, e_shl, e_shr, e_eql, e_neq, e_lss, e_leq, e_gtr, e_geq, e_beq, e_bne, e_peq1, e_peq2, e_pne1, e_pne2, e_zeq1, e_zeq2, e_zne1, e_zne2, e_feq1, e_fne1, e_feq2, e_fne2, e_seq, e_sne, e_ta1, e_ta2, Nat.zero_add, Nat.add_zero, Bool.not_true, Bool.not_false]
    by_cases h4 : (apS C q r.1).2.code = 0
    · rw [if_pos h4] at hK
      simp only [h4, decide_true, Bool.not_true, e_fd, e_nck, e_pkt, e_pkf, e_gdtt, e_gdtf, e_gdft, e_gdff, e_ift, e_iff, e_not, e_ln, e_lnT, e_cp, e_cvi, e_ex20, e_ex21, e_ex30, e_ex31, e_ex32, e_add, e_sub, e_mul, e_quo, e_rem, e_and, e_or, e_xor, e_shl, e_shr, e_eql, e_neq, e_lss, e_leq, e_gtr, e_geq, e_beq, e_bne, e_peq1, e_peq2, e_pne1, e_pne2, e_zeq1, e_zeq2, e_zne1, e_zne2, e_feq1, e_fne1, e_feq2, e_fne2, e_seq, e_sne, e_ta1, e_ta2, Nat.zero_add, Nat.add_zero, Bool.not_true, Bool.not_false]
      have hent : (apS C q r.1).1.ent = ent (σ.seq + 1) q ∧ (apS C q r.1).1.seq = σ.seq ∧ (apS C q r.1).1.tail = r.1.tail ∧ (apS C q r.1).1.loose = r.1.loose := by
        have e := apS_keep C q r.1
        rw [e.1, e.2.1, e.2.2.1, e.2.2.2]
        exact ⟨hsame.ent, hsame.seq, rfl, rfl⟩
      obtain ⟨va9, vt9, env9, re9, _, sen9, men9⟩ := s9.en.ex
      refine ld1_r re9 (en_get s9.en.rf) ?_
      rw [hent.1] at sen9
      have ae9 := sen9.ar bC_len (F := fun _ => True) (by omega) (fun _ _ => trivial)
      refine wrtE_ok s9.en ae9 el0 (by rw [hent.2.1]; exact ⟨by omega, hs⟩) (by rw [hent.2.2.1]; exact hbb.1) (by rw [hent.2.2.2]; exact hbb.2) (s9.step2 fun w10 M10 m10 s10 hk10 ho10 => ?_)
      have hrf10 := s10.en.rf
      generalize wrtS (apS C q r.1).1 r.2.1 (ent (σ.seq + 1) q) = y at hK s10 hrf10 ⊢
      have r10 := hk10.row r9 (s9.v _ (.inr rfl)).2.1
      have p10 := hk10.row p9 (s9.v _ (.inl (.inr rfl))).2.1
      have sz10 := hk10.size
      have rv10 := rv9.kp hk10 fun b hb q => by
        rcases s9.o b q with q2 | q2
        · have := h.lt b (h.own q2); have := hb.1; omega
        · exact hb.2.2 q
      by_cases h5 : y.2.2 = 0
      · rw [if_pos h5] at hK
        simp only [nei, h5, decide_true, Bool.not_true, e_fd, e_nck, e_pkt, e_pkf, e_gdtt, e_gdtf, e_gdft, e_gdff, e_ift, e_iff, e_not, e_ln, e_lnT, e_cp, e_cvi, e_ex20, e_ex21, e_ex30, e_ex31, e_ex32, e_add, e_sub, e_mul, e_quo, e_rem, e_and, e_or, e_xor, e_shl, e_shr, e_eql, e_neq, e_lss, e_leq, e_gtr, e_geq, e_beq, e_bne, e_peq1, e_peq2, e_pne1, e_pne2, e_zeq1, e_zeq2, e_zne1, e_zne2, e_feq1, e_fne1, e_feq2, e_fne2, e_seq, e_sne, e_ta1, e_ta2, Nat.zero_add, Nat.add_zero, Bool.not_true, Bool.not_false]
        obtain ⟨va10, vt10, env10, re10⟩ := s10.row
        refine ld1_r re10 rfl ?_
        try simp only [e_fd, e_nck, e_pkt, e_pkf, e_gdtt, e_gdtf, e_gdft, e_gdff, e_ift, e_iff, e_not, e_ln, e_lnT, e_cp, e_cvi, e_ex20, e_ex21, e_ex30, e_ex31, e_ex32, e_add, e_sub, e_mul, e_quo, e_rem, e_and, e_or, e_xor, e_shl, e_shr, e_eql, e_neq, e_lss, e_leq, e_gtr, e_geq, e_beq, e_bne, e_peq1, e_peq2, e_pne1, e_pne2, e_zeq1, e_zeq2, e_zne1, e_zne2, e_feq1, e_fne1, e_feq2, e_fne2, e_seq, e_sne, e_ta1, e_ta2, Nat.zero_add, Nat.add_zero, Bool.not_true, Bool.not_false]
        refine s10.st { y.1 with sg := Go.Proofs.Qxb6500896aGreat.w1 y.1.sg } (by decide) rfl (fun va vt env => rfl) rfl ⟨rfl, rfl⟩ hrf10 fun w11 s11 hk11 hz11 => ?_
        have r11 := hk11.row r10 (s10.nV (.inr rfl) (.inl rfl))
        have p11 := hk11.row p10 (s10.nV (.inl (.inr rfl)) (.inl rfl))
        refine ldn_r r11 (by omega) ?_
        rw [e34]
        refine out s11 (.inl (.inr rfl)) p11 ((rv10.kp hk11 fun b hb q => ?_).mono fun b hb => ⟨by have := hb.1; omega, by have := hb.2.1; omega, fun q => ?_⟩) hK
        · have := hb.1; have := h.lt e h.me; have : b = e := q; omega
        · rcases ho10 b q with q2 | q2
          · exact hb.2.2 q2
          · have := hb.2.1; omega
      · rw [if_neg h5] at hK
        simp only [nei, h5, decide_false, Bool.not_false, e_fd, e_nck, e_pkt, e_pkf, e_gdtt, e_gdtf, e_gdft, e_gdff, e_ift, e_iff, e_not, e_ln, e_lnT, e_cp, e_cvi, e_ex20, e_ex21, e_ex30, e_ex31, e_ex32, e_add, e_sub, e_mul, e_quo, e_rem, e_and, e_or, e_xor, e_shl, e_shr, e_eql, e_neq, e_lss, e_leq, e_gtr, e_geq, e_beq, e_bne, e_peq1, e_peq2, e_pne1, e_pne2, e_zeq1, e_zeq2, e_zne1, e_zne2, e_feq1, e_fne1, e_feq2, e_fne2, e_seq, e_sne, e_ta1, e_ta2, Nat.zero_add, Nat.add_zero, Bool.not_true, Bool.not_false]
        refine refuse_ok s10.en (s10.step fun w11 M11 m11 s11 hk11 hm11 => ?_)
        have p11 := hk11.row p10 (s10.v _ (.inl (.inr rfl))).2.1
        exact out s11 (.inl (.inr rfl)) p11 (Rv.plain rfl rfl rfl rfl) hK
    · rw [if_neg h4] at hK
      simp only [h4, decide_false, Bool.not_false, e_fd, e_nck, e_pkt, e_pkf, e_gdtt, e_gdtf, e_gdft, e_gdff, e_ift, e_iff, e_not, e_ln, e_lnT, e_cp, e_cvi, e_ex20, e_ex21, e_ex30, e_ex31, e_ex32, e_add, e_sub, e_mul, e_quo, e_rem, e_and, e_or, e_xor, e_shl, e_shr, e_eql, e_neq, e_lss, e_leq, e_gtr, e_geq, e_beq, e_bne, e_peq1, e_peq2, e_pne1, e_pne2, e_zeq1, e_zeq2, e_zne1, e_zne2, e_feq1, e_fne1, e_feq2, e_fne2, e_seq, e_sne, e_ta1, e_ta2, Nat.zero_add, Nat.add_zero, Bool.not_true, Bool.not_false]
      refine ld1_r r9 e0 ?_
      refine refuse_ok s9.en (s9.step fun w10 M10 m10 s10 hk10 hm10 => ?_)
      have p10 := hk10.row p9 (s9.v _ (.inl (.inr rfl))).2.1
      exact out s10 (.inl (.inr rfl)) p10 (Rv.plain rfl rfl rfl rfl) hK
  · rw [if_neg h3] at hK
    simp only [h3, decide_false, Bool.not_false, e_fd, e_nck, e_pkt, e_pkf, e_gdtt, e_gdtf, e_gdft, e_gdff, e_ift, e_iff, e_not, e_ln, e_lnT, e_cp, e_cvi, e_ex20, e_ex21, e_ex30, e_ex31, e_ex32, e_add, e_sub, e_mul, e_quo, e_rem, e_and, e_or, e_xor, e_shl, e_shr, e_eql, e_neq, e_lss, e_leq, e_gtr, e_geq, e_beq, e_bne, e_peq1, e_peq2, e_pne1, e_pne2, e_zeq1, e_zeq2, e_zne1, e_zne2, e_feq1, e_fne1, e_feq2, e_fne2, e_seq, e_sne, e_ta1, e_ta2, Nat.zero_add, Nat.add_zero, Bool.not_true, Bool.not_false]
    refine refuse_ok s6.en (s6.step fun w7 M7 m7 s7 hk7 hm7 => ?_)
    have p7 := hk7.row p6 (s6.v _ (.inr rfl)).2.1
    exact out s7 (.inr rfl) p7 (Rv.plain rfl rfl rfl rfl) hK
end
end Go.Proofs.Qxb6500896aGreat
