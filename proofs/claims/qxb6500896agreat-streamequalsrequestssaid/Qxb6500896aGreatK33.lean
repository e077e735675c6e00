import Derived.Test.Qxb6500896aGreatK32
namespace Go.Proofs.Qxb6500896aGreat
open Go.Sh Go.RowKit
set_option linter.unusedVariables false
set_option linter.unusedSimpArgs false

def tGrant (r : Rec) (rs : List Rec) : List Rec := rs ++ [{ r with id := ((rs.length + 1 : Nat) : Int) }]
def tCheck (C : Cfg) (cls sz : Int) (ls : List Leg) (rs : List Rec) : Int := if C.mb ≤ ((rs.length : Nat) : Int) then 9 else fits C rs cls sz ls 0
def tHold (C : Cfg) (now cls sz : Int) (ls : List Leg) (rs : List Rec) : List Rec × Int :=
  if tCheck C cls sz ls rs = 0 then (tGrant ⟨0, 1, cls, sz, 0, now + C.ht, ls⟩ rs, 0) else (rs, tCheck C cls sz ls rs)
def tEnroll (C : Cfg) (attr cls sz : Int) (rs : List Rec) : List Rec × Int :=
  if C.mb ≤ ((rs.length : Nat) : Int) then (rs, 9) else (tGrant ⟨0, 7, cls, sz, attr + 1, 0, []⟩ rs, 0)
def tRebook (C : Cfg) (id : Int) (ls : List Leg) (rs : List Rec) : List Rec × Int :=
  if has rs id then (if (rget rs id).st = 1 ∨ (rget rs id).st = 2 then (if fits C rs (rget rs id).cl (rget rs id).sz ls id = 0 then (rset rs id { rget rs id with legs := ls }, 0) else (rs, fits C rs (rget rs id).cl (rget rs id).sz ls id)) else (rs, 8)) else (rs, 2)
section
variable {F G M M' S : Nat → Prop} {w w' w1 : World} {v lv rv : Value} {t b i : Nat} {rob : Option Nat} {C : Cfg} {rs : List Rec} {K : Value → World → Prop} {ls : List Leg} {now id cls sz : Int} {r : Rec}
theorem Tb.tw (h : Tb M w t rob C rs) {X : World → Prop} {rs' : List Rec} (hX : TbK M w t rob C rs' X) (hk : Kp Emp w w1) : TbK M w1 t rob C rs' X := fun w2 M2 rob2 hx hk2 ho ht =>
  hX w2 M2 rob2 ((Ext.same h.lt hk).trans hx) (hk.none.trans hk2) (fun b q => (ho b q).imp id fun e => by have := hk.size; omega) ht
set_option maxHeartbeats 1000000 in
theorem grant_ok (h : Tb M w t rob C rs) (hl : Ar lC 2 F w lv r.legs) (hll : r.legs.length ≤ 1000000) (hrs : rs.length < 16777216)
    (hK : ∀ w' M' rob' lv', Ext M M' w w' → Kp (OwnT t rob) w w' → (∀ b, OwnT t rob' b → OwnT t rob b ∨ w.heap.size ≤ b) → Tb M' w' t rob' C (tGrant r rs) → scal lv' = true → K (.agg (rC ({ r with id := ((rs.length + 1 : Nat) : Int) }, lv')).toArray) w') : cl Tryz.prog 240 #[P t 0, .agg (rC (r, lv)).toArray] K w := by
  have hlsc := hl.scal
  apply c240
  unfold s240_p3
  refine nw_r fun w1 r1 hk1 hz1 => ?_
  replace r1 : Row w1 w.heap.size 85 (rC (r, lv)) := r1
  refine nw_r fun w2 r2 hk2 hz2 => ?_
  have k2 := hk1.trans hk2
  obtain ⟨cl, rv, r0w, hc, its, e1, e2w, e3, e4⟩ := h.ex
  have hcl := hc.len
  have hil : its.length = rs.length := by rw [← e1, List.length_map]
  have hrr : Rs M w rob rv rs := ⟨its, e1, e2w, e3, e4⟩
  have r14 : (cl ++ [rv])[14]? = some rv := by rw [List.getElem?_append_right (by omega), hcl]; rfl
  have tlt := h.lt t h.mt
  try simp only [e_fd, e_nck, e_pkt, e_pkf, e_gdtt, e_gdtf, e_gdft, e_gdff, e_ift, e_iff, e_not, e_ln, e_lnT, e_cp, e_cvi, e_ex20, e_ex21, e_ex30, e_ex31, e_ex32, e_add, e_sub, e_mul, e_quo, e_rem, e_and, e_or, e_xor, e_shl, e_shr, e_eql, e_neq, e_lss, e_leq, e_gtr, e_geq, e_beq, e_bne, e_peq1, e_peq2, e_pne1, e_pne2, e_zeq1, e_zeq2, e_zne1, e_zne2, e_feq1, e_fne1, e_feq2, e_fne2, e_seq, e_sne, e_ta1, e_ta2, Nat.zero_add, Nat.add_zero, Bool.not_true, Bool.not_false]
  refine ld1_r (k2.row' r0w) r14 ?_
  refine hrr.ln ?_
  try simp only [e_fd, e_nck, e_pkt, e_pkf, e_gdtt, e_gdtf, e_gdft, e_gdff, e_ift, e_iff, e_not, e_ln, e_lnT, e_cp, e_cvi, e_ex20, e_ex21, e_ex30, e_ex31, e_ex32, e_add, e_sub, e_mul, e_quo, e_rem, e_and, e_or, e_xor, e_shl, e_shr, e_eql, e_neq, e_lss, e_leq, e_gtr, e_geq, e_beq, e_bne, e_peq1, e_peq2, e_pne1, e_pne2, e_zeq1, e_zeq2, e_zne1, e_zne2, e_feq1, e_fne1, e_feq2, e_fne2, e_seq, e_sne, e_ta1, e_ta2, Nat.zero_add, Nat.add_zero, Bool.not_true, Bool.not_false]
  rw [inc rs.length (by omega)]
  refine st1_r (hk2.row' r1) (show 0 < 7 by decide) rfl fun w3 r3 hk3 hz3 => ?_
  replace r3 : Row w3 w.heap.size 85 (rC ({ r with id := ((rs.length + 1 : Nat) : Int) }, lv)) := r3
  have k3 : Kp Emp w w3 := k2.then hk3 fun k hk (q : k = _) => by omega
  refine Sl.empty (f := lC) (k := 2) fun w4 s4 hk4 hz4 => ?_
  try simp only [e_fd, e_nck, e_pkt, e_pkf, e_gdtt, e_gdtf, e_gdft, e_gdff, e_ift, e_iff, e_not, e_ln, e_lnT, e_cp, e_cvi, e_ex20, e_ex21, e_ex30, e_ex31, e_ex32, e_add, e_sub, e_mul, e_quo, e_rem, e_and, e_or, e_xor, e_shl, e_shr, e_eql, e_neq, e_lss, e_leq, e_gtr, e_geq, e_beq, e_bne, e_peq1, e_peq2, e_pne1, e_pne2, e_zeq1, e_zeq2, e_zne1, e_zne2, e_feq1, e_fne1, e_feq2, e_fne2, e_seq, e_sne, e_ta1, e_ta2, Nat.zero_add, Nat.add_zero, Bool.not_true, Bool.not_false]
  have r34 := hk4.row' r3
  refine ld1_r (v := lv) r34 rfl ?_
  have k4 := k3.trans hk4
  refine Sl.app3 lC_len rfl (fun _ _ => lC_sc _) s4 ((hl.kp' k4).rds lC_len) (by simp; omega) (by simp; omega) fun w5 v5 ob5 s5 hk5 ho5 => ?_
  rw [List.nil_append] at s5
  have k5 : Kp Emp w3 w5 := hk4.then hk5 fun k hk q => by cases q; omega
  have sz5 := k5.size
  have hb5 : ∃ b5, ob5 = some b5 ∧ w3.heap.size ≤ b5 := by
    rcases ho5 with q | ⟨b5, q, hb5⟩
    · exact ⟨_, q, Nat.le_refl _⟩
    · exact ⟨b5, q, by omega⟩
  obtain ⟨b5, rfl, hb5⟩ := hb5
  have s5lt := s5.lt
  try simp only [e_fd, e_nck, e_pkt, e_pkf, e_gdtt, e_gdtf, e_gdft, e_gdff, e_ift, e_iff, e_not, e_ln, e_lnT, e_cp, e_cvi, e_ex20, e_ex21, e_ex30, e_ex31, e_ex32, e_add, e_sub, e_mul, e_quo, e_rem, e_and, e_or, e_xor, e_shl, e_shr, e_eql, e_neq, e_lss, e_leq, e_gtr, e_geq, e_beq, e_bne, e_peq1, e_peq2, e_pne1, e_pne2, e_zeq1, e_zeq2, e_zne1, e_zne2, e_feq1, e_fne1, e_feq2, e_fne2, e_seq, e_sne, e_ta1, e_ta2, Nat.zero_add, Nat.add_zero, Bool.not_true, Bool.not_false]
  refine st1_r (k5.row' r3) (show 6 < 7 by decide) (sl_scal s5) fun w6 r6 hk6 hz6 => ?_
  replace r6 : Row w6 w.heap.size 85 (rC ({ r with id := ((rs.length + 1 : Nat) : Int) }, v5)) := r6
  have s6 := s5.kp hk6 (fun b e (q : b = _) => by cases e; omega)
  have k6 : Kp Emp w w6 := (k3.trans k5).then hk6 fun k hk (q : k = _) => by omega
  have r26 : Row w6 w1.heap.size 85 (rC (zRec, nilS)) := hk6.row (k5.row' (hk3.row r2 (show ¬ w1.heap.size = w.heap.size by omega))) (show ¬ w1.heap.size = w.heap.size by omega)
  unfold s240_p2 s240_p2_d
  have kd : Kp Emp w6 (drw w6) := kp_drw
  generalize drw w6 = w7 at kd ⊢
  have k7 := k6.trans kd
  have sz67 := kd.size
  have r7 := kd.row' r6
  have r27 := kd.row' r26
  have s7 := s6.kp' kd
  generalize hrec : ({ r with id := ((rs.length + 1 : Nat) : Int) } : Rec) = rec at r6 r7 hK ⊢
  have hlegs : rec.legs = r.legs := by rw [← hrec]
  have r0 := k7.row' r0w
  have e2 := e2w.kp' k7
  have hv5 := sl_scal s5
  try simp only [e_fd, e_nck, e_pkt, e_pkf, e_gdtt, e_gdtf, e_gdft, e_gdff, e_ift, e_iff, e_not, e_ln, e_lnT, e_cp, e_cvi, e_ex20, e_ex21, e_ex30, e_ex31, e_ex32, e_add, e_sub, e_mul, e_quo, e_rem, e_and, e_or, e_xor, e_shl, e_shr, e_eql, e_neq, e_lss, e_leq, e_gtr, e_geq, e_beq, e_bne, e_peq1, e_peq2, e_pne1, e_pne2, e_zeq1, e_zeq2, e_zne1, e_zne2, e_feq1, e_fne1, e_feq2, e_fne2, e_seq, e_sne, e_ta1, e_ta2, Nat.zero_add, Nat.add_zero, Bool.not_true, Bool.not_false]
  refine ld1_r r0 r14 ?_
  refine ldn_r r7 (show 0 + 7 ≤ 7 by decide) ?_
  try simp only [e_fd, e_nck, e_pkt, e_pkf, e_gdtt, e_gdtf, e_gdft, e_gdff, e_ift, e_iff, e_not, e_ln, e_lnT, e_cp, e_cvi, e_ex20, e_ex21, e_ex30, e_ex31, e_ex32, e_add, e_sub, e_mul, e_quo, e_rem, e_and, e_or, e_xor, e_shl, e_shr, e_eql, e_neq, e_lss, e_leq, e_gtr, e_geq, e_beq, e_bne, e_peq1, e_peq2, e_pne1, e_pne2, e_zeq1, e_zeq2, e_zne1, e_zne2, e_feq1, e_fne1, e_feq2, e_fne2, e_seq, e_sne, e_ta1, e_ta2, Nat.zero_add, Nat.add_zero, Bool.not_true, Bool.not_false]
  refine bsq_r (l := rC (rec, v5)) rfl fun w8 r8 hk8 hz8 => ⟨hk8.below', ?_⟩
  have hA8 : Ar rC 7 (fun _ => True) w8 (.slice (some ⟨w7.heap.size, 0, none⟩) 1 1) [(rec, v5)] := Ar.row (xs := [(rec, v5)]) rC_len (by rw [rows_cons, show rows rC ([] : List (Rec × Value)) = [] from rfl, List.append_nil]; exact r8) trivial (by simp)
  refine Sl.app3 rC_len rfl (fun y hy => ?_) (e2.kp' hk8) (hA8.rds rC_len) (by simp; omega) (by simp; omega) fun w9 rv9 rob9 s9 hk9 ho9 => ?_
  · have : y = (rec, v5) := by simpa using hy
    rw [this]; exact rC_sc hv5
  have hz7 := k7.size
  have k9 : Kp (fun b => rob = some b) w w9 := (k7.trans hk8).none.trans hk9
  have sz9 := k9.size
  have sz89 := hk9.size
  have tne : ∀ b, rob = some b → t ≠ b := fun b e => by
    obtain ⟨l2, rb⟩ := e2.row e
    exact row_ne r0 rb (by decide)
  have r09 : Row w9 t 228 (cl ++ [rv]) := hk9.row (hk8.row' r0) (fun e => tne _ e rfl)
  refine st1_r r09 (by rw [List.length_append, hcl]; simp) (sl_scal s9) fun w10 r10 hk10 hz10 => ?_
  have e10 : (cl ++ [rv]).set 14 rv9 = cl ++ [rv9] := by rw [List.set_append_right _ _ (by omega), hcl]; rfl
  rw [e10] at r10
  have k10 : Kp (OwnT t rob) w w10 := (k9.mono fun b _ q => .inr q).trans (hk10.mono fun b _ q => .inl q)
  have t9 : ∀ b, rob9 = some b → ¬ b = t := fun b e q => by
    obtain ⟨l2, rb⟩ := s9.row e
    exact row_ne r09 rb (by decide) q.symm
  have hob9 : ∀ b, rob9 = some b → M b ∨ w7.heap.size ≤ b := fun b e => by
    rcases ho9 with q | ⟨c, q, hc⟩
    · exact .inl (e3 b (by rw [← q]; exact e))
    · rw [q] at e; cases e; exact .inr (by omega)
  have rne : ∀ b, OwnT t rob b → b < w.heap.size := fun b q => h.lt b (h.own q)
  have k710 : Kp (fun b => OwnT t rob b) w7 w10 := (hk8.none.trans (hk9.mono fun b _ q => .inr q)).trans (hk10.mono fun b _ q => .inl q)
  have r710 : Row w10 w.heap.size 85 (rC (rec, v5)) := k710.row r7 (fun q => by have := rne _ q; omega)
  have r2710 : Row w10 w1.heap.size 85 (rC (zRec, nilS)) := k710.row r27 (fun q => by have := rne _ q; omega)
  unfold s240_p1
  refine ldn_r r710 (show 0 + 7 ≤ 7 by decide) ?_
  refine stn_r (cs := rC (rec, v5)) r2710 rfl (show 0 + 7 ≤ 7 by decide) (rC_sc hv5) fun w11 r11 hk11 hz11 => ?_
  replace r11 : Row w11 w1.heap.size 85 (rC (rec, v5)) := r11
  refine ldn_r r11 (show 0 + 7 ≤ 7 by decide) ?_
  have k11 : Kp (OwnT t rob) w w11 := k10.then hk11 fun k hk (q : k = _) => by omega
  have hx : Ext M (fun b => M b ∨ rob9 = some b) w w11 := Ext.add? h.lt k11 (fun b e => (hob9 b e).imp id fun q => by omega) (fun b e => by
    obtain ⟨l2, rb⟩ := s9.row e
    have := rb.lt
    omega)
  have hS : ∀ b, OwnT t rob b → b < w.heap.size → M b := fun b q _ => h.own q
  have n11 : ∀ b, rob9 = some b → ¬ b = w1.heap.size := fun b e q => by
    rcases hob9 b e with q2 | q2
    · have := h.lt b q2; omega
    · omega
  have hlegs11 : Ai lC 2 (fun b => M b ∨ rob9 = some b) w11 v5 rec.legs := by
    rw [hlegs]
    have a7 : Ar lC 2 (fun b => b = b5) w7 v5 r.legs := s7.ar lC_len (by omega) fun b e => by cases e; rfl
    refine ((a7.kp k710 fun b hb q => ?_).kp hk11 fun b hb (q : b = _) => ?_).mono fun b hb => ⟨fun q => ?_, ?_⟩
    · have := rne b q; omega
    · omega
    · rcases q with q | q
      · have := h.lt b q; omega
      · rcases hob9 b q with q | q
        · have := h.lt b q; omega
        · have := s7.lt; omega
    · have := s7.lt; have := k710.size; omega
  refine hK w11 _ rob9 v5 hx k11 (fun b q => ?_) ⟨⟨cl, rv9, hk11.row r10 (by omega), hc.ext hx k11 hS, its ++ [(rec, v5)], ?_, (s9.kp hk10 t9).kp hk11 n11, fun b e => .inr e, fun p hp => ?_⟩, .inl h.mt, hx.lt, ?_⟩ hv5
  · rcases q with q | q
    · exact .inl (.inl q)
    · rcases ho9 with e | ⟨c, e, hc⟩
      · exact .inl (.inr (by rw [← e]; exact q))
      · rw [e] at q; cases q; exact .inr (by omega)
  · rw [List.map_append, e1, tGrant, hrec]; rfl
  · rcases List.mem_append.1 hp with q | q
    · exact (e4 p q).ext hx k11 hS
    · have : p = (rec, v5) := by simpa using q
      rw [this]; exact hlegs11
  · unfold tGrant; rw [List.length_append]; simp; omega
end
end Go.Proofs.Qxb6500896aGreat
