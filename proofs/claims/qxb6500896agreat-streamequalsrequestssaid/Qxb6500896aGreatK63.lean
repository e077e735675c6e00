import Derived.Test.Qxb6500896aGreatK62
import Derived.Test.Qxb6500896aGreatGf
namespace Go.Proofs.Qxb6500896aGreat
open Go.Sh Go.RowKit
set_option linter.unusedVariables false
set_option linter.unusedSimpArgs false

/-! ### questions -/
def qGet (q : Rq) (σ : Sg) : Rp := if has σ.rs q.id then { rp0 with op := q.op, recs := [rget σ.rs q.id] } else rf 2
def qLim (C : Cfg) (q : Rq) : Int := if q.li = 0 ∨ C.pg < q.li then C.pg else q.li
def qFst (q : Rq) : Int := if q.id < 1 then 1 else q.id
def qList (C : Cfg) (q : Rq) (σ : Sg) : Rp :=
  { rp0 with op := q.op, recs := (σ.rs.drop (qFst q - 1).toNat).take (qLim C q).toNat, nx := if (qFst q - 1).toNat + (qLim C q).toNat < σ.rs.length then qFst q + ((qLim C q).toNat : Nat) else 0 }
section
variable {F G M0 M M' S V : Nat → Prop} {w w' w0 w1 w4 : World} {v v' rv lv iv va vt env : Value} {l l0 : List Value} {n wb e t b c pb j : Nat} {C : Cfg} {K : Value → World → Prop} {m0 m m' m4 : Me} {σ σ' : Sg} {J J' : Jr} {q : Rq} {p : Rp} {x : List Int} {lob : Option Nat}
/-- the end of an answer -/
theorem rep_end (r : Row w pb 94 l0) (h0 : l0.length = 34) (hl : l.length = 34) (hs : l.all scal = true) (hX : ∀ w', Kp (fun b => b = pb) w w' → w'.heap.size = w.heap.size → K (.agg l.toArray) w') :
    stn 34 (P pb 0) (.agg l.toArray) (fun w => ldn 34 (P pb 0) (fun r0 _ => K r0 w) w) w := by
  refine stn_r (cs := l) r hl (by omega) hs fun w7 r7 hk7 hz7 => ?_
  rw [List.take_zero, List.nil_append, Nat.zero_add, List.drop_of_length_le (by omega), List.append_nil] at r7
  refine ldn_r r7 (by omega) ?_
  rw [List.drop_zero, List.take_of_length_le (by omega)]
  exact hX w7 hk7 hz7
/-- a refusal as an answer -/
theorem ref_end {code : Int} (r : Row w pb 94 l0) (h0 : l0.length = 34) (hk : Kp Emp w0 w) (hp : w0.heap.size ≤ pb) (hX : ∀ w', Kp Emp w0 w' → Rv (Nb w0 w') w' ((rf code).cells nilS nilS nilS) (rf code) → K (.agg ((rf code).cells nilS nilS nilS).toArray) w') :
    cl Tryz.prog 129 #[I code] (fun t w => stn 34 (P pb 0) t (fun w => ldn 34 (P pb 0) (fun r0 _ => K r0 w) w) w) w := by
  refine refusal_ok fun w1 hk1 => ?_
  refine rep_end (hk1.row' r) h0 rfl (Rp.sc rfl rfl rfl) fun w2 hk2 hz2 => ?_
  exact hX w2 ((hk.trans hk1).then hk2 fun k hk (q : k = _) => by omega) (Rv.plain rfl rfl rfl rfl)
abbrev QK (w : World) (p : Rp) (K : Value → World → Prop) : Prop := ∀ w' l, Kp Emp w w' → Rv (Nb w w') w' l p → K (.agg l.toArray) w'
theorem Rf.ro {w0 : World} {rob : Option Nat} {rs : List Rec} (h : Rf w0 w rob rv rs) (hl : rs.length ≤ 16777216) (hll : ∀ r ∈ rs, r.legs.length ≤ 1000000) : Ro (Nb w0 w) w rv rs := by
  obtain ⟨its, h1, h2, h3, h4⟩ := h
  have hil : its.length = rs.length := by rw [← h1, List.length_map]
  refine ⟨its, h1, h2.ar rC_len (by omega) (fun b e => ?_), fun p hp => ?_⟩
  · subst e
    exact ⟨h3 b rfl, h2.lt⟩
  · obtain ⟨b, s, hb⟩ := h4 p hp
    have := hll p.1 (by rw [← h1]; exact List.mem_map_of_mem hp)
    refine s.ar lC_len (by omega) (fun b' e => ?_)
    cases e
    exact ⟨hb, s.lt⟩
set_option maxHeartbeats 1000000 in
theorem getE_ok (h : En M w e m C σ J) (hb : ∀ r ∈ σ.rs, RN r) (hid : N63 q.id) (hsc : scal lv = true) (hK : QK w (qGet q σ) K) : cl Tryz.prog 217 #[P e 0, .agg (q.cells lv).toArray] K w := by
  have hb1 : ∀ r ∈ σ.rs, r.legs.length ≤ 1000000 := fun r hr => by have := (hb r hr).ll; omega
  apply c217
  unfold s217_p3
  refine nw_r fun w1 r1 hk1 hz1 => ?_
  replace r1 : Row w1 w.heap.size 52 (q.cells lv) := r1
  refine nw_r fun w2 r2 hk2 hz2 => ?_
  replace r2 : Row w2 w1.heap.size 94 (rp0.cells nilS nilS nilS) := r2
  have r12 := hk2.row' r1
  have k2 := hk1.trans hk2
  unfold s217_p2 s217_p2_d
  have kd : Kp Emp w2 (drw w2) := kp_drw
  have szd : (drw w2).heap.size = w2.heap.size := rfl
  generalize drw w2 = w3 at kd szd ⊢
  have k3 := k2.trans kd
  have h3 := h.kp' k3
  obtain ⟨va, vt, env, r, _⟩ := h3.ex
  have q3 := kd.row' r12
  have p3 := kd.row' r2
  try simp only [e_fd, e_nck, e_pkt, e_pkf, e_gdtt, e_gdtf, e_gdft, e_gdff, e_ift, e_iff, e_not, e_ln, e_lnT, e_cp, e_cvi, e_ex20, e_ex21, e_ex30, e_ex31, e_ex32, e_add, e_sub, e_mul, e_quo, e_rem, e_and, e_or, e_xor, e_shl, e_shr, e_eql, e_neq, e_lss, e_leq, e_gtr, e_geq, e_beq, e_bne, e_peq1, e_peq2, e_pne1, e_pne2, e_zeq1, e_zeq2, e_zne1, e_zne2, e_feq1, e_fne1, e_feq2, e_fne2, e_seq, e_sne, e_ta1, e_ta2, Nat.zero_add, Nat.add_zero, Bool.not_true, Bool.not_false]
  refine ld1_r r rfl ?_
  try simp only [e_fd, e_nck, e_pkt, e_pkf, e_gdtt, e_gdtf, e_gdft, e_gdff, e_ift, e_iff, e_not, e_ln, e_lnT, e_cp, e_cvi, e_ex20, e_ex21, e_ex30, e_ex31, e_ex32, e_add, e_sub, e_mul, e_quo, e_rem, e_and, e_or, e_xor, e_shl, e_shr, e_eql, e_neq, e_lss, e_leq, e_gtr, e_geq, e_beq, e_bne, e_peq1, e_peq2, e_pne1, e_pne2, e_zeq1, e_zeq2, e_zne1, e_zne2, e_feq1, e_fne1, e_feq2, e_fne2, e_seq, e_sne, e_ta1, e_ta2, Nat.zero_add, Nat.add_zero, Bool.not_true, Bool.not_false]
  refine ld1_r q3 rfl ?_
  unfold qGet at hK
  have bad : ¬ has σ.rs q.id → ∀ w4 b, Kp Emp w3 w4 → s217_p1 K (P w.heap.size 0) (P w1.heap.size 0) b (.bool false) w4 := by
    intro hn w4 b hk4
    rw [if_neg hn] at hK
    unfold s217_p1
    simp only [Bool.not_false, e_fd, e_nck, e_pkt, e_pkf, e_gdtt, e_gdtf, e_gdft, e_gdff, e_ift, e_iff, e_not, e_ln, e_lnT, e_cp, e_cvi, e_ex20, e_ex21, e_ex30, e_ex31, e_ex32, e_add, e_sub, e_mul, e_quo, e_rem, e_and, e_or, e_xor, e_shl, e_shr, e_eql, e_neq, e_lss, e_leq, e_gtr, e_geq, e_beq, e_bne, e_peq1, e_peq2, e_pne1, e_pne2, e_zeq1, e_zeq2, e_zne1, e_zne2, e_feq1, e_fne1, e_feq2, e_fne2, e_seq, e_sne, e_ta1, e_ta2, Nat.zero_add, Nat.add_zero, Bool.not_true, Bool.not_false]
    exact ref_end (hk4.row' p3) rfl (k3.trans hk4) (by omega) fun w5 k5 rv5 => hK w5 _ k5 rv5
  have good : has σ.rs q.id → ∀ w4 b lv4 lb, Kp Emp w3 w4 → w3.heap.size ≤ b → Row w4 b 85 (rC (rget σ.rs q.id, lv4)) → Sl lC 2 w4 88 (some lb) lv4 (rget σ.rs q.id).legs → w3.heap.size ≤ lb → s217_p1 K (P w.heap.size 0) (P w1.heap.size 0) (P b 0) (.bool true) w4 := by
    intro hh w4 b lv4 lb hk4 hb4 r4 s4 hlb
    rw [if_pos hh] at hK
    have hmem : rget σ.rs q.id ∈ σ.rs := by
      obtain ⟨i, hi, hlt⟩ := has_at hh
      rw [rget_at hi hlt]; exact List.getElem_mem hlt
    unfold s217_p1
    simp only [Bool.not_true, e_fd, e_nck, e_pkt, e_pkf, e_gdtt, e_gdtf, e_gdft, e_gdff, e_ift, e_iff, e_not, e_ln, e_lnT, e_cp, e_cvi, e_ex20, e_ex21, e_ex30, e_ex31, e_ex32, e_add, e_sub, e_mul, e_quo, e_rem, e_and, e_or, e_xor, e_shl, e_shr, e_eql, e_neq, e_lss, e_leq, e_gtr, e_geq, e_beq, e_bne, e_peq1, e_peq2, e_pne1, e_pne2, e_zeq1, e_zeq2, e_zne1, e_zne2, e_feq1, e_fne1, e_feq2, e_fne2, e_seq, e_sne, e_ta1, e_ta2, Nat.zero_add, Nat.add_zero, Bool.not_true, Bool.not_false]
    refine ld1_r (hk4.row' q3) rfl ?_
    refine ldn_r r4 (show 0 + 7 ≤ 7 by decide) ?_
    refine bsq_r (l := rC (rget σ.rs q.id, lv4)) rfl fun w5 r5 hk5 hz5 => ?_
    refine bdq_r (l := ({ rp0 with op := q.op, recs := [rget σ.rs q.id] } : Rp).cells nilS (.slice (some ⟨w4.heap.size, 0, none⟩) 1 1) nilS) rfl ?_
    have k5 : Kp Emp w w5 := (k3.trans hk4).trans hk5
    have sz4 := hk4.size
    refine rep_end (hk5.row' (hk4.row' p3)) rfl rfl (Rp.sc rfl rfl rfl) fun w6 hk6 hz6 => ?_
    have s6 := (s4.kp' hk5).kp hk6 fun b e (q : b = _) => by cases e; omega
    have r6 := hk6.row r5 (show ¬ w4.heap.size = _ by omega)
    refine hK w6 _ (k5.then hk6 fun k hk (q : k = _) => by omega) ⟨nilS, _, nilS, rfl, Ar.nil, ⟨[(rget σ.rs q.id, lv4)], rfl, ?_, fun p hp => ?_⟩, Ar.nil, rfl⟩
    · exact Ar.row (xs := [(rget σ.rs q.id, lv4)]) (F := Nb w w6) rC_len (by simpa [rows] using r6) ⟨by omega, r6.lt⟩ (by simp)
    · rw [List.mem_singleton.1 hp]
      refine s6.ar lC_len (by have := hb1 _ hmem; simp only; omega) fun b' e => ?_
      cases e
      exact ⟨by omega, s6.lt⟩
  refine ⟨?_, ?_⟩
  · refine get_ok (.inr hid) h3.tb hb1 (fun hn w4 hk4 => ?_) fun i hi he w4 lv4 b4 hk4 hb4 s4 => ?_
    · simp only [ex2_0, ex2_1, and_self]
      refine nw_r fun w5 r5 hk5 hz5 => ⟨(hk4.trans hk5).below', ?_⟩
      refine stn_r (cs := rC (zRec, nilS)) r5 rfl (show 0 + 7 ≤ 7 by decide) rfl fun w6 r6 hk6 hz6 => ?_
      exact bad hn w6 _ ((hk4.trans hk5).then hk6 fun k hk (q : k = _) => by have := hk4.size; omega)
    · simp only [ex2_0, ex2_1, and_self]
      refine nw_r fun w5 r5 hk5 hz5 => ⟨(hk4.trans hk5).below', ?_⟩
      refine stn_r (cs := rC (σ.rs[i], lv4)) r5 rfl (show 0 + 7 ≤ 7 by decide) (rC_sc (sl_scal s4)) fun w6 r6 hk6 hz6 => ?_
      have s4' := hk4.size
      have b42 := hb4.2
      rw [← rget_at he hi] at r6 s4
      exact good ⟨by omega, by omega⟩ w6 _ lv4 b4 ((hk4.trans hk5).then hk6 fun k hk (q : k = _) => by omega) (by omega) r6 ((s4.kp' hk5).kp hk6 fun b e (q : b = _) => by cases e; omega) hb4.1
  · refine nw_r fun w4 r4 hk4 hz4 => ⟨hk4.below', ?_⟩
    refine get_ok (.inr hid) (h3.tb.kp' hk4) hb1 (fun hn w5 hk5 => ?_) fun i hi he w5 lv4 b4 hk5 hb4 s4 => ?_
    · simp only [ex2_0, ex2_1, and_self]
      refine stn_r (cs := rC (zRec, nilS)) (hk5.row' r4) rfl (show 0 + 7 ≤ 7 by decide) rfl fun w6 r6 hk6 hz6 => ?_
      exact bad hn w6 _ ((hk4.trans hk5).then hk6 fun k hk (q : k = _) => by omega)
    · simp only [ex2_0, ex2_1, and_self]
      refine stn_r (cs := rC (σ.rs[i], lv4)) (hk5.row' r4) rfl (show 0 + 7 ≤ 7 by decide) (rC_sc (sl_scal s4)) fun w6 r6 hk6 hz6 => ?_
      have b41 := hb4.1
      rw [← rget_at he hi] at r6 s4
      exact good ⟨by omega, by omega⟩ w6 _ lv4 b4 ((hk4.trans hk5).then hk6 fun k hk (q : k = _) => by omega) (by omega) r6 (s4.kp hk6 fun b e (q : b = _) => by cases e; omega) (by omega)
set_option maxHeartbeats 1000000 in
theorem listE_ok (cv : CV C) (h : En M w e m C σ J) (hb : ∀ r ∈ σ.rs, RN r) (hid : N63 q.id) (hli : N63 q.li) (hsc : scal lv = true) (hK : QK w (qList C q σ) K) : cl Tryz.prog 218 #[P e 0, .agg (q.cells lv).toArray] K w := by
  have hb1 : ∀ r ∈ σ.rs, r.legs.length ≤ 1000000 := fun r hr => by have := (hb r hr).ll; omega
  have pg := cv.pg
  have tl := h.tb.len
  unfold N63 at hid hli
  have hn1 : 1 ≤ qLim C q ∧ qLim C q ≤ 16777216 := by unfold qLim; split <;> omega
  have hf1 : 1 ≤ qFst q ∧ qFst q ≤ 9223372036854775807 := by unfold qFst; split <;> omega
  apply c218
  unfold s218_p6
  refine nw_r fun w1 r1 hk1 hz1 => ?_
  replace r1 : Row w1 w.heap.size 52 (q.cells lv) := r1
  refine nw_r fun w2 r2 hk2 hz2 => ?_
  replace r2 : Row w2 w1.heap.size 94 (rp0.cells nilS nilS nilS) := r2
  have r12 := hk2.row' r1
  have k2 := hk1.trans hk2
  have h2 := h.kp' k2
  obtain ⟨va, vt, env, r, _⟩ := h2.ex
  have p4 : s218_p4 K (P e 0) (P w.heap.size 0) (P w1.heap.size 0) (I (qLim C q)) (I (qFst q)) w2 := by
    unfold s218_p4
    try simp only [e_fd, e_nck, e_pkt, e_pkf, e_gdtt, e_gdtf, e_gdft, e_gdff, e_ift, e_iff, e_not, e_ln, e_lnT, e_cp, e_cvi, e_ex20, e_ex21, e_ex30, e_ex31, e_ex32, e_add, e_sub, e_mul, e_quo, e_rem, e_and, e_or, e_xor, e_shl, e_shr, e_eql, e_neq, e_lss, e_leq, e_gtr, e_geq, e_beq, e_bne, e_peq1, e_peq2, e_pne1, e_pne2, e_zeq1, e_zeq2, e_zne1, e_zne2, e_feq1, e_fne1, e_feq2, e_fne2, e_seq, e_sne, e_ta1, e_ta2, Nat.zero_add, Nat.add_zero, Bool.not_true, Bool.not_false]
    refine ld1_r r12 rfl ?_
    refine bdq_r (l := ({ rp0 with op := q.op } : Rp).cells nilS nilS nilS) rfl ?_
    refine nw_r fun w3 r3 hk3 hz3 => ?_
    refine stn_r (cs := ({ rp0 with op := q.op } : Rp).cells nilS nilS nilS) r3 rfl (show 0 + 34 ≤ 34 by decide) (Rp.sc rfl rfl rfl) fun w4 r4 hk4 hz4 => ?_
    replace r4 : Row w4 w2.heap.size 94 (({ rp0 with op := q.op } : Rp).cells nilS nilS nilS) := r4
    have k24 : Kp Emp w2 w4 := hk3.then hk4 fun k hk (q : k = _) => by omega
    have k4 := k2.trans k24
    have h4 := h.kp' k4
    try simp only [e_fd, e_nck, e_pkt, e_pkf, e_gdtt, e_gdtf, e_gdft, e_gdff, e_ift, e_iff, e_not, e_ln, e_lnT, e_cp, e_cvi, e_ex20, e_ex21, e_ex30, e_ex31, e_ex32, e_add, e_sub, e_mul, e_quo, e_rem, e_and, e_or, e_xor, e_shl, e_shr, e_eql, e_neq, e_lss, e_leq, e_gtr, e_geq, e_beq, e_bne, e_peq1, e_peq2, e_pne1, e_pne2, e_zeq1, e_zeq2, e_zne1, e_zne2, e_feq1, e_fne1, e_feq2, e_fne2, e_seq, e_sne, e_ta1, e_ta2, Nat.zero_add, Nat.add_zero, Bool.not_true, Bool.not_false]
    refine ld1_r (k24.row' r) rfl ?_
    refine len_ok h4.tb ?_
    unfold qList at hK
    generalize hkk : (qFst q - 1).toNat = k0 at hK
    generalize hnn : (qLim C q).toNat = n0 at hK
    have eF : qFst q = ((k0 + 1 : Nat) : Int) := by omega
    have eN : qLim C q = ((n0 : Nat) : Int) := by omega
    rw [eF, eN]
    rw [eF] at hK
    -- the end
    have fin : ∀ (w5 : World) (rob : Option Nat) (rv : Value) (i : Nat) (nx : Int), Kp Emp w w5 → w4.heap.size ≤ w5.heap.size → Rf w4 w5 rob rv ((σ.rs.drop k0).take i) → i ≤ 16777216 → Row w5 w1.heap.size 94 (rp0.cells nilS nilS nilS) → Row w5 w2.heap.size 94 (({ rp0 with op := q.op, nx := nx } : Rp).cells nilS rv nilS) →
        (({ rp0 with op := q.op, recs := (σ.rs.drop k0).take i, nx := nx } : Rp) = { rp0 with op := q.op, recs := (σ.rs.drop k0).take n0, nx := if k0 + n0 < σ.rs.length then ((k0 + 1 : Nat) : Int) + ((n0 : Nat) : Int) else 0 }) → s218_p1 K (P w1.heap.size 0) (P w2.heap.size 0) w5 := by
      intro w5 rob rv i nx k5 sz5 hf5 hi5 p5 r5 he
      unfold s218_p1
      refine ldn_r r5 (show 0 + 34 ≤ 34 by decide) ?_
      have hsv : scal rv = true := by obtain ⟨its, f1, f2, f3, f4⟩ := hf5; exact sl_scal f2
      refine rep_end (l := ({ rp0 with op := q.op, nx := nx } : Rp).cells nilS rv nilS) p5 rfl rfl (Rp.sc rfl hsv rfl) fun w6 hk6 hz6 => ?_
      have hf6 := hf5.kpT hk6 p5 (by decide) (by decide)
      have k6 : Kp Emp w w6 := k5.then hk6 fun k hk (q : k = _) => by omega
      have sz4 := k4.size
      refine hK w6 _ k6 ?_
      rw [← he]
      refine ⟨nilS, rv, nilS, rfl, Ar.nil, ?_, Ar.nil, rfl⟩
      have hro := hf6.ro (by rw [List.length_take]; omega) (fun r hr => hb1 r (List.mem_of_mem_drop (List.mem_of_mem_take hr)))
      obtain ⟨its, a1, a2, a3⟩ := hro
      exact ⟨its, a1, a2.mono fun b hb => ⟨by have := hb.1; omega, hb.2⟩, fun p hp => (a3 p hp).mono fun b hb => ⟨by have := hb.1; omega, hb.2⟩⟩
    unfold s218_p3
    refine ⟨fun mm l w' => ∃ (i : Nat) (rob : Option Nat) (rv : Value), mm = n0 - i ∧ i ≤ n0 ∧ (0 < i → k0 + i ≤ σ.rs.length) ∧ l = [P e 0, P w1.heap.size 0, I ((n0 : Nat) : Int), P w2.heap.size 0, I (σ.rs.length : Nat), I ((k0 + 1 + i : Nat) : Int)] ∧ Kp Emp w w' ∧ w4.heap.size ≤ w'.heap.size ∧ Rf w4 w' rob rv ((σ.rs.drop k0).take i) ∧ Row w' w1.heap.size 94 (rp0.cells nilS nilS nilS) ∧ Row w' w2.heap.size 94 (({ rp0 with op := q.op } : Rp).cells nilS rv nilS), n0,
      ⟨0, none, nilS, by omega, by omega, fun h => absurd h (by omega), rfl, k4, Nat.le_refl _, ⟨[], rfl, ⟨rfl, rfl⟩, (fun b e => by cases e), fun p hp => by cases hp⟩, hk4.row (hk3.row' r2) (show ¬ w1.heap.size = _ by omega), r4⟩, ?_⟩
    rintro mm l w5 ⟨i, rob, rv, rfl, hin, hik, rfl, k5, sz5, hf5, p5, r5⟩
    have h5 := h.kp' k5
    rw [s218_p3_Fe]
    unfold s218_p2
    try simp only [e_fd, e_nck, e_pkt, e_pkf, e_gdtt, e_gdtf, e_gdft, e_gdff, e_ift, e_iff, e_not, e_ln, e_lnT, e_cp, e_cvi, e_ex20, e_ex21, e_ex30, e_ex31, e_ex32, e_add, e_sub, e_mul, e_quo, e_rem, e_and, e_or, e_xor, e_shl, e_shr, e_eql, e_neq, e_lss, e_leq, e_gtr, e_geq, e_beq, e_bne, e_peq1, e_peq2, e_pne1, e_pne2, e_zeq1, e_zeq2, e_zne1, e_zne2, e_feq1, e_fne1, e_feq2, e_fne2, e_seq, e_sne, e_ta1, e_ta2, Nat.zero_add, Nat.add_zero, Bool.not_true, Bool.not_false]
    by_cases hle : ((k0 + 1 + i : Nat) : Int) ≤ ((σ.rs.length : Nat) : Int)
    · simp only [hle, decide_true, e_fd, e_nck, e_pkt, e_pkf, e_gdtt, e_gdtf, e_gdft, e_gdff, e_ift, e_iff, e_not, e_ln, e_lnT, e_cp, e_cvi, e_ex20, e_ex21, e_ex30, e_ex31, e_ex32, e_add, e_sub, e_mul, e_quo, e_rem, e_and, e_or, e_xor, e_shl, e_shr, e_eql, e_neq, e_lss, e_leq, e_gtr, e_geq, e_beq, e_bne, e_peq1, e_peq2, e_pne1, e_pne2, e_zeq1, e_zeq2, e_zne1, e_zne2, e_feq1, e_fne1, e_feq2, e_fne2, e_seq, e_sne, e_ta1, e_ta2, Nat.zero_add, Nat.add_zero, Bool.not_true, Bool.not_false]
      refine ld1_r (v := rv) r5 rfl ?_
      have hlen : ((σ.rs.drop k0).take i).length = i := by rw [List.length_take, List.length_drop]; omega
      have hro := hf5.ro (by rw [hlen]; omega) (fun r hr => hb1 r (List.mem_of_mem_drop (List.mem_of_mem_take hr)))
      refine hro.ln ?_
      rw [hlen]
      try simp only [e_fd, e_nck, e_pkt, e_pkf, e_gdtt, e_gdtf, e_gdft, e_gdff, e_ift, e_iff, e_not, e_ln, e_lnT, e_cp, e_cvi, e_ex20, e_ex21, e_ex30, e_ex31, e_ex32, e_add, e_sub, e_mul, e_quo, e_rem, e_and, e_or, e_xor, e_shl, e_shr, e_eql, e_neq, e_lss, e_leq, e_gtr, e_geq, e_beq, e_bne, e_peq1, e_peq2, e_pne1, e_pne2, e_zeq1, e_zeq2, e_zne1, e_zne2, e_feq1, e_fne1, e_feq2, e_fne2, e_seq, e_sne, e_ta1, e_ta2, Nat.zero_add, Nat.add_zero, Bool.not_true, Bool.not_false]
      by_cases hi : i = n0
      · have e1 : (((i : Nat) : Int) == ((n0 : Nat) : Int)) = true := by rw [hi]; simp
        simp only [e1, e_fd, e_nck, e_pkt, e_pkf, e_gdtt, e_gdtf, e_gdft, e_gdff, e_ift, e_iff, e_not, e_ln, e_lnT, e_cp, e_cvi, e_ex20, e_ex21, e_ex30, e_ex31, e_ex32, e_add, e_sub, e_mul, e_quo, e_rem, e_and, e_or, e_xor, e_shl, e_shr, e_eql, e_neq, e_lss, e_leq, e_gtr, e_geq, e_beq, e_bne, e_peq1, e_peq2, e_pne1, e_pne2, e_zeq1, e_zeq2, e_zne1, e_zne2, e_feq1, e_fne1, e_feq2, e_fne2, e_seq, e_sne, e_ta1, e_ta2, Nat.zero_add, Nat.add_zero, Bool.not_true, Bool.not_false]
        refine st1_r r5 (by simp [Rp.cells, rp0]) rfl fun w6 r6 hk6 hz6 => ?_
        have hf6 := hf5.kpT hk6 r5 (by decide) (by decide)
        refine fin w6 rob rv i ((k0 + 1 + i : Nat) : Int) (k5.then hk6 fun k hk (q : k = _) => by omega) (by omega) hf6 (by omega) (hk6.row p5 (show ¬ w1.heap.size = _ by omega)) r6 ?_
        rw [hi, if_pos (by omega), show ((k0 + 1 + n0 : Nat) : Int) = ((k0 + 1 : Nat) : Int) + ((n0 : Nat) : Int) by omega]
      · have e1 : (((i : Nat) : Int) == ((n0 : Nat) : Int)) = false := by rw [beq_eq_false_iff_ne]; omega
        simp only [e1, e_fd, e_nck, e_pkt, e_pkf, e_gdtt, e_gdtf, e_gdft, e_gdff, e_ift, e_iff, e_not, e_ln, e_lnT, e_cp, e_cvi, e_ex20, e_ex21, e_ex30, e_ex31, e_ex32, e_add, e_sub, e_mul, e_quo, e_rem, e_and, e_or, e_xor, e_shl, e_shr, e_eql, e_neq, e_lss, e_leq, e_gtr, e_geq, e_beq, e_bne, e_peq1, e_peq2, e_pne1, e_pne2, e_zeq1, e_zeq2, e_zne1, e_zne2, e_feq1, e_fne1, e_feq2, e_fne2, e_seq, e_sne, e_ta1, e_ta2, Nat.zero_add, Nat.add_zero, Bool.not_true, Bool.not_false]
        obtain ⟨va5, vt5, env5, re5, _⟩ := h5.ex
        refine ld1_r re5 rfl ?_
        refine get_ok (.inr ⟨by omega, by omega⟩) h5.tb hb1 (fun hn => absurd ⟨by omega, by omega⟩ hn) (fun i' hi' hid' w7 lv7 b7 hk7 hnb7 s7 => ?_)
        obtain rfl : i' = k0 + i := by omega
        have k7 := k5.trans hk7
        have sz7 := hk7.size
        try simp only [e_fd, e_nck, e_pkt, e_pkf, e_gdtt, e_gdtf, e_gdft, e_gdff, e_ift, e_iff, e_not, e_ln, e_lnT, e_cp, e_cvi, e_ex20, e_ex21, e_ex30, e_ex31, e_ex32, e_add, e_sub, e_mul, e_quo, e_rem, e_and, e_or, e_xor, e_shl, e_shr, e_eql, e_neq, e_lss, e_leq, e_gtr, e_geq, e_beq, e_bne, e_peq1, e_peq2, e_pne1, e_pne2, e_zeq1, e_zeq2, e_zne1, e_zne2, e_feq1, e_fne1, e_feq2, e_fne2, e_seq, e_sne, e_ta1, e_ta2, Nat.zero_add, Nat.add_zero, Bool.not_true, Bool.not_false]
        refine nw_r fun w8 r8 hk8 hz8 => ?_
        refine stn_r (cs := rC (σ.rs[k0 + i], lv7)) r8 rfl (show 0 + 7 ≤ 7 by decide) (rC_sc (sl_scal s7)) fun w9 r9 hk9 hz9 => ?_
        replace r9 : Row w9 w7.heap.size 85 (rC (σ.rs[k0 + i], lv7)) := r9
        have k79 : Kp Emp w7 w9 := hk8.then hk9 fun k hk (q : k = _) => by omega
        have k9 := k7.trans k79
        have k59 := hk7.trans k79
        have s9 := s7.kp' k79
        have b71 := hnb7.1
        try simp only [e_fd, e_nck, e_pkt, e_pkf, e_gdtt, e_gdtf, e_gdft, e_gdff, e_ift, e_iff, e_not, e_ln, e_lnT, e_cp, e_cvi, e_ex20, e_ex21, e_ex30, e_ex31, e_ex32, e_add, e_sub, e_mul, e_quo, e_rem, e_and, e_or, e_xor, e_shl, e_shr, e_eql, e_neq, e_lss, e_leq, e_gtr, e_geq, e_beq, e_bne, e_peq1, e_peq2, e_pne1, e_pne2, e_zeq1, e_zeq2, e_zne1, e_zne2, e_feq1, e_fne1, e_feq2, e_fne2, e_seq, e_sne, e_ta1, e_ta2, Nat.zero_add, Nat.add_zero, Bool.not_true, Bool.not_false]
        refine ld1_r (v := rv) (k59.row' r5) rfl ?_
        refine ldn_r r9 (show 0 + 7 ≤ 7 by decide) ?_
        refine bsq_r (l := rC (σ.rs[k0 + i], lv7)) rfl fun w10 r10 hk10 hz10 => ?_
        have hf10 : Rf w4 w10 rob rv ((σ.rs.drop k0).take i) := hf5.kp (k59.trans hk10) (fun b q _ _ => q)
        obtain ⟨its, f1, f2, f3, f4⟩ := hf10
        have hitl : its.length = i := by rw [← List.length_map (f := (·.1)), f1, hlen]
        have hrd : Rds rC 7 w10 (.slice (some ⟨w9.heap.size, 0, none⟩) 1 1) [(σ.rs[k0 + i], lv7)] := (Ar.row (F := fun _ => True) (xs := [(σ.rs[k0 + i], lv7)]) rC_len (by simpa [rows] using r10) trivial (by simp)).rds rC_len
        refine Sl.app3 rC_len rfl (fun y hy => by rw [List.mem_singleton] at hy; rw [hy]; exact rC_sc (sl_scal s7)) f2 hrd (by simp; omega) (by simp; omega) fun w11 v11 ob11 s11 hk11 ho11 => ?_
        have sz9 := k79.size
        have sz11 := hk11.size
        have lb : ∀ b, rob = some b → w4.heap.size ≤ b := f3
        have l4 := r4.lt
        have sz4 := k4.size
        have k11 : Kp Emp w w11 := (k9.trans hk10).then hk11 fun k hk q => by have := lb k q; omega
        have ne1 : ∀ b, b < w4.heap.size → ¬ rob = some b := fun b hb q => by have := lb b q; omega
        have r11 := hk11.row (hk10.row' (k59.row' r5)) (ne1 w2.heap.size (by omega))
        have p11 := hk11.row (hk10.row' (k59.row' p5)) (ne1 w1.heap.size (by omega))
        try simp only [e_fd, e_nck, e_pkt, e_pkf, e_gdtt, e_gdtf, e_gdft, e_gdff, e_ift, e_iff, e_not, e_ln, e_lnT, e_cp, e_cvi, e_ex20, e_ex21, e_ex30, e_ex31, e_ex32, e_add, e_sub, e_mul, e_quo, e_rem, e_and, e_or, e_xor, e_shl, e_shr, e_eql, e_neq, e_lss, e_leq, e_gtr, e_geq, e_beq, e_bne, e_peq1, e_peq2, e_pne1, e_pne2, e_zeq1, e_zeq2, e_zne1, e_zne2, e_feq1, e_fne1, e_feq2, e_fne2, e_seq, e_sne, e_ta1, e_ta2, Nat.zero_add, Nat.add_zero, Bool.not_true, Bool.not_false]
        refine st1_r r11 (by simp [Rp.cells, rp0]) (sl_scal s11) fun w12 r12' hk12 hz12 => ?_
        have lb11 : ∀ b, ob11 = some b → w4.heap.size ≤ b := fun b q => by
          rcases ho11 with e | ⟨b', e, hb'⟩
          · exact lb b (e ▸ q)
          · rw [e] at q; cases q; omega
        have ei : IntKind.i64.wrap (((k0 + 1 + i : Nat) : Int) + 1) = ((k0 + 1 + (i + 1) : Nat) : Int) := by rw [wrap64_id (by omega) (by omega)]; omega
        simp only [ei, e_fd, e_nck, e_pkt, e_pkf, e_gdtt, e_gdtf, e_gdft, e_gdff, e_ift, e_iff, e_not, e_ln, e_lnT, e_cp, e_cvi, e_ex20, e_ex21, e_ex30, e_ex31, e_ex32, e_add, e_sub, e_mul, e_quo, e_rem, e_and, e_or, e_xor, e_shl, e_shr, e_eql, e_neq, e_lss, e_leq, e_gtr, e_geq, e_beq, e_bne, e_peq1, e_peq2, e_pne1, e_pne2, e_zeq1, e_zeq2, e_zne1, e_zne2, e_feq1, e_fne1, e_feq2, e_fne2, e_seq, e_sne, e_ta1, e_ta2, Nat.zero_add, Nat.add_zero, Bool.not_true, Bool.not_false]
        refine ⟨n0 - (i + 1), by omega, i + 1, ob11, v11, rfl, by omega, fun _ => by omega, rfl, k11.then hk12 (fun k hk (q : k = _) => by omega), by omega, ⟨its ++ [(σ.rs[k0 + i], lv7)], ?_, s11.kp hk12 (fun b q (e : b = _) => by have := lb11 b q; omega), lb11, fun p hp => ?_⟩, hk12.row p11 (show ¬ w1.heap.size = _ by omega), r12'⟩
        · rw [List.map_append, f1, List.take_succ_eq_append_getElem (by rw [List.length_drop]; omega), List.getElem_drop]; rfl
        · have kp12 : ∀ {b : Nat} {pv : Value} {lg : List Leg}, Sl lC 2 w10 88 (some b) pv lg → w4.heap.size ≤ b → Sl lC 2 w12 88 (some b) pv lg := fun {b pv lg} s hb => by
            refine (s.kp hk11 (fun b' e q => ?_)).kp hk12 (fun b' e (q : b' = _) => by cases e; omega)
            cases e
            obtain ⟨l1, hl1⟩ := f2.row q
            obtain ⟨l2, hl2⟩ := s.row rfl
            exact row_ne hl1 hl2 (by decide) rfl
          rcases List.mem_append.1 hp with q | q
          · obtain ⟨b, s, hb⟩ := f4 p q
            exact ⟨b, kp12 s hb, hb⟩
          · rw [List.mem_singleton] at q
            rw [q]
            exact ⟨b7, kp12 (s9.kp' hk10) (by omega), by omega⟩
    · simp only [hle, decide_false, e_fd, e_nck, e_pkt, e_pkf, e_gdtt, e_gdtf, e_gdft, e_gdff, e_ift, e_iff, e_not, e_ln, e_lnT, e_cp, e_cvi, e_ex20, e_ex21, e_ex30, e_ex31, e_ex32, e_add, e_sub, e_mul, e_quo, e_rem, e_and, e_or, e_xor, e_shl, e_shr, e_eql, e_neq, e_lss, e_leq, e_gtr, e_geq, e_beq, e_bne, e_peq1, e_peq2, e_pne1, e_pne2, e_zeq1, e_zeq2, e_zne1, e_zne2, e_feq1, e_fne1, e_feq2, e_fne2, e_seq, e_sne, e_ta1, e_ta2, Nat.zero_add, Nat.add_zero, Bool.not_true, Bool.not_false]
      refine fin w5 rob rv i 0 k5 sz5 hf5 (by omega) p5 r5 ?_
      rw [if_neg (by omega)]
      congr 1
      rw [List.take_of_length_le (by rw [List.length_drop]; omega), List.take_of_length_le (by rw [List.length_drop]; omega)]
  have p5 : ∀ x : Int, x = qLim C q → s218_p5 K (P e 0) (P w.heap.size 0) (P w1.heap.size 0) (I x) w2 := by
    intro x hx
    unfold s218_p5
    try simp only [e_fd, e_nck, e_pkt, e_pkf, e_gdtt, e_gdtf, e_gdft, e_gdff, e_ift, e_iff, e_not, e_ln, e_lnT, e_cp, e_cvi, e_ex20, e_ex21, e_ex30, e_ex31, e_ex32, e_add, e_sub, e_mul, e_quo, e_rem, e_and, e_or, e_xor, e_shl, e_shr, e_eql, e_neq, e_lss, e_leq, e_gtr, e_geq, e_beq, e_bne, e_peq1, e_peq2, e_pne1, e_pne2, e_zeq1, e_zeq2, e_zne1, e_zne2, e_feq1, e_fne1, e_feq2, e_fne2, e_seq, e_sne, e_ta1, e_ta2, Nat.zero_add, Nat.add_zero, Bool.not_true, Bool.not_false]
    refine ld1_r r12 rfl ?_
    try simp only [e_fd, e_nck, e_pkt, e_pkf, e_gdtt, e_gdtf, e_gdft, e_gdff, e_ift, e_iff, e_not, e_ln, e_lnT, e_cp, e_cvi, e_ex20, e_ex21, e_ex30, e_ex31, e_ex32, e_add, e_sub, e_mul, e_quo, e_rem, e_and, e_or, e_xor, e_shl, e_shr, e_eql, e_neq, e_lss, e_leq, e_gtr, e_geq, e_beq, e_bne, e_peq1, e_peq2, e_pne1, e_pne2, e_zeq1, e_zeq2, e_zne1, e_zne2, e_feq1, e_fne1, e_feq2, e_fne2, e_seq, e_sne, e_ta1, e_ta2, Nat.zero_add, Nat.add_zero, Bool.not_true, Bool.not_false]
    rw [hx]
    unfold qFst at p4
    by_cases h1 : q.id < 1
    · rw [if_pos h1] at p4
      simp only [h1, decide_true, e_fd, e_nck, e_pkt, e_pkf, e_gdtt, e_gdtf, e_gdft, e_gdff, e_ift, e_iff, e_not, e_ln, e_lnT, e_cp, e_cvi, e_ex20, e_ex21, e_ex30, e_ex31, e_ex32, e_add, e_sub, e_mul, e_quo, e_rem, e_and, e_or, e_xor, e_shl, e_shr, e_eql, e_neq, e_lss, e_leq, e_gtr, e_geq, e_beq, e_bne, e_peq1, e_peq2, e_pne1, e_pne2, e_zeq1, e_zeq2, e_zne1, e_zne2, e_feq1, e_fne1, e_feq2, e_fne2, e_seq, e_sne, e_ta1, e_ta2, Nat.zero_add, Nat.add_zero, Bool.not_true, Bool.not_false]
      exact p4
    · rw [if_neg h1] at p4
      simp only [h1, decide_false, e_fd, e_nck, e_pkt, e_pkf, e_gdtt, e_gdtf, e_gdft, e_gdff, e_ift, e_iff, e_not, e_ln, e_lnT, e_cp, e_cvi, e_ex20, e_ex21, e_ex30, e_ex31, e_ex32, e_add, e_sub, e_mul, e_quo, e_rem, e_and, e_or, e_xor, e_shl, e_shr, e_eql, e_neq, e_lss, e_leq, e_gtr, e_geq, e_beq, e_bne, e_peq1, e_peq2, e_pne1, e_pne2, e_zeq1, e_zeq2, e_zne1, e_zne2, e_feq1, e_fne1, e_feq2, e_fne2, e_seq, e_sne, e_ta1, e_ta2, Nat.zero_add, Nat.add_zero, Bool.not_true, Bool.not_false]
      exact p4
  try simp only [e_fd, e_nck, e_pkt, e_pkf, e_gdtt, e_gdtf, e_gdft, e_gdff, e_ift, e_iff, e_not, e_ln, e_lnT, e_cp, e_cvi, e_ex20, e_ex21, e_ex30, e_ex31, e_ex32, e_add, e_sub, e_mul, e_quo, e_rem, e_and, e_or, e_xor, e_shl, e_shr, e_eql, e_neq, e_lss, e_leq, e_gtr, e_geq, e_beq, e_bne, e_peq1, e_peq2, e_pne1, e_pne2, e_zeq1, e_zeq2, e_zne1, e_zne2, e_feq1, e_fne1, e_feq2, e_fne2, e_seq, e_sne, e_ta1, e_ta2, Nat.zero_add, Nat.add_zero, Bool.not_true, Bool.not_false]
  refine ld1_r r12 rfl ?_
  try simp only [e_fd, e_nck, e_pkt, e_pkf, e_gdtt, e_gdtf, e_gdft, e_gdff, e_ift, e_iff, e_not, e_ln, e_lnT, e_cp, e_cvi, e_ex20, e_ex21, e_ex30, e_ex31, e_ex32, e_add, e_sub, e_mul, e_quo, e_rem, e_and, e_or, e_xor, e_shl, e_shr, e_eql, e_neq, e_lss, e_leq, e_gtr, e_geq, e_beq, e_bne, e_peq1, e_peq2, e_pne1, e_pne2, e_zeq1, e_zeq2, e_zne1, e_zne2, e_feq1, e_fne1, e_feq2, e_fne2, e_seq, e_sne, e_ta1, e_ta2, Nat.zero_add, Nat.add_zero, Bool.not_true, Bool.not_false]
  by_cases h1 : q.li = 0
  · have e1 : (q.li == 0) = true := by rw [h1]; rfl
    simp only [e1, e_fd, e_nck, e_pkt, e_pkf, e_gdtt, e_gdtf, e_gdft, e_gdff, e_ift, e_iff, e_not, e_ln, e_lnT, e_cp, e_cvi, e_ex20, e_ex21, e_ex30, e_ex31, e_ex32, e_add, e_sub, e_mul, e_quo, e_rem, e_and, e_or, e_xor, e_shl, e_shr, e_eql, e_neq, e_lss, e_leq, e_gtr, e_geq, e_beq, e_bne, e_peq1, e_peq2, e_pne1, e_pne2, e_zeq1, e_zeq2, e_zne1, e_zne2, e_feq1, e_fne1, e_feq2, e_fne2, e_seq, e_sne, e_ta1, e_ta2, Nat.zero_add, Nat.add_zero, Bool.not_true, Bool.not_false]
    refine ld1_r r rfl ?_
    exact p5 _ (by unfold qLim; rw [if_pos (.inl h1)])
  · have e1 : (q.li == 0) = false := beq_eq_false_iff_ne.2 h1
    simp only [e1, e_fd, e_nck, e_pkt, e_pkf, e_gdtt, e_gdtf, e_gdft, e_gdff, e_ift, e_iff, e_not, e_ln, e_lnT, e_cp, e_cvi, e_ex20, e_ex21, e_ex30, e_ex31, e_ex32, e_add, e_sub, e_mul, e_quo, e_rem, e_and, e_or, e_xor, e_shl, e_shr, e_eql, e_neq, e_lss, e_leq, e_gtr, e_geq, e_beq, e_bne, e_peq1, e_peq2, e_pne1, e_pne2, e_zeq1, e_zeq2, e_zne1, e_zne2, e_feq1, e_fne1, e_feq2, e_fne2, e_seq, e_sne, e_ta1, e_ta2, Nat.zero_add, Nat.add_zero, Bool.not_true, Bool.not_false]
    refine ld1_r r rfl ?_
    try simp only [e_fd, e_nck, e_pkt, e_pkf, e_gdtt, e_gdtf, e_gdft, e_gdff, e_ift, e_iff, e_not, e_ln, e_lnT, e_cp, e_cvi, e_ex20, e_ex21, e_ex30, e_ex31, e_ex32, e_add, e_sub, e_mul, e_quo, e_rem, e_and, e_or, e_xor, e_shl, e_shr, e_eql, e_neq, e_lss, e_leq, e_gtr, e_geq, e_beq, e_bne, e_peq1, e_peq2, e_pne1, e_pne2, e_zeq1, e_zeq2, e_zne1, e_zne2, e_feq1, e_fne1, e_feq2, e_fne2, e_seq, e_sne, e_ta1, e_ta2, Nat.zero_add, Nat.add_zero, Bool.not_true, Bool.not_false]
    by_cases h2 : C.pg < q.li
    · simp only [h2, decide_true, e_fd, e_nck, e_pkt, e_pkf, e_gdtt, e_gdtf, e_gdft, e_gdff, e_ift, e_iff, e_not, e_ln, e_lnT, e_cp, e_cvi, e_ex20, e_ex21, e_ex30, e_ex31, e_ex32, e_add, e_sub, e_mul, e_quo, e_rem, e_and, e_or, e_xor, e_shl, e_shr, e_eql, e_neq, e_lss, e_leq, e_gtr, e_geq, e_beq, e_bne, e_peq1, e_peq2, e_pne1, e_pne2, e_zeq1, e_zeq2, e_zne1, e_zne2, e_feq1, e_fne1, e_feq2, e_fne2, e_seq, e_sne, e_ta1, e_ta2, Nat.zero_add, Nat.add_zero, Bool.not_true, Bool.not_false]
      refine ld1_r r rfl ?_
      exact p5 _ (by unfold qLim; rw [if_pos (.inr h2)])
    · simp only [h2, decide_false, e_fd, e_nck, e_pkt, e_pkf, e_gdtt, e_gdtf, e_gdft, e_gdff, e_ift, e_iff, e_not, e_ln, e_lnT, e_cp, e_cvi, e_ex20, e_ex21, e_ex30, e_ex31, e_ex32, e_add, e_sub, e_mul, e_quo, e_rem, e_and, e_or, e_xor, e_shl, e_shr, e_eql, e_neq, e_lss, e_leq, e_gtr, e_geq, e_beq, e_bne, e_peq1, e_peq2, e_pne1, e_pne2, e_zeq1, e_zeq2, e_zne1, e_zne2, e_feq1, e_fne1, e_feq2, e_fne2, e_seq, e_sne, e_ta1, e_ta2, Nat.zero_add, Nat.add_zero, Bool.not_true, Bool.not_false]
      exact p5 _ (by unfold qLim; rw [if_neg (by omega)])
end
end Go.Proofs.Qxb6500896aGreat
