import Derived.Test.Qxb6500896aGreatK56
import Derived.Test.Qxb6500896aGreatN5
namespace Go.Proofs.Qxb6500896aGreat
open Go.Sh Go.RowKit
set_option linter.unusedVariables false
set_option linter.unusedSimpArgs false

/-- a counter -/
def w1 (x : Int) : Int := IntKind.i64.wrap (x + 1)
theorem w1_id {x : Int} (h0 : 0 ≤ x) (h1 : x ≤ 1000000000000000000) : w1 x = x + 1 := wrap64_id (by omega) (by omega)
theorem w1_ne (x : Int) : w1 x ≠ x := by
  unfold w1 IntKind.wrap
  have e : (2 ^ IntKind.i64.bits : Int) = 18446744073709551616 := by decide
  rw [e]
  simp only
  split <;> omega
theorem wrapu32 (n : Int) : IntKind.u32.wrap n = n % 4294967296 := by
  have e : (2 ^ IntKind.u32.bits : Int) = 4294967296 := by decide
  unfold IntKind.wrap
  rw [e]
  simp [IntKind.signed]
theorem dR_b (n d : Int) (k : Nat) : 0 ≤ dR n d k ∧ dR n d k < 4294967296 := by
  unfold dR
  generalize IntKind.u32.wrap _ * 16777619 = x
  rw [wrapu32]
  omega
theorem dAdd_b {d : Int} (n : Int) : 0 ≤ dAdd d n ∧ dAdd d n < 4294967296 := by
  unfold dAdd
  rw [show List.range 8 = List.range 7 ++ [7] from rfl, List.foldl_append]
  exact dR_b _ _ _
theorem fold_b : ∀ (l : List Int) (d : Int), 0 ≤ d ∧ d < 4294967296 → 0 ≤ l.foldl dAdd d ∧ l.foldl dAdd d < 4294967296
  | [], d, h => h
  | n :: l, d, h => fold_b l (dAdd d n) (dAdd_b n)
theorem fp_b (C : Cfg) : 0 ≤ fp C ∧ fp C < 4294967296 := by
  unfold fp
  have := fold_b (nums C) 2166136261 (by decide)
  rw [wrap64_id (by omega) (by omega)]
  exact this
theorem fp_N (C : Cfg) : N63 (fp C) := by have := fp_b C; exact ⟨this.1, by omega⟩
theorem encImg_len {im : Img} (h : ∀ r ∈ im.rs, r.legs.length ≤ 8) : (encImg im).length ≤ 46 + 207 * im.rs.length + 9 * im.ls.length + 9 * lens im.ls := by
  unfold encImg
  have h1 := uI_len im.rules
  have h2 := uI_len im.seq
  have h3 := uI_len im.now
  have h4 := uI_len (im.rs.length : Nat)
  have h5 := uI_len (im.ls.length : Nat)
  have h6 := encRs_len h
  have h7 := encLns_len im.ls
  simp only [List.length_append, List.length_singleton]
  omega
/-! ### what an engine does with its journal -/
def refS (code : Int) (σ : Sg) : Sg := if 0 < code ∧ code < 23 then { σ with rf := σ.rf.set code.toNat (w1 (σ.rf[code.toNat]?.getD 0)) } else σ
def snapS (C : Cfg) (σ : Sg) (J : Jr) : Sg × Jr × Int :=
  if (snapJ J (encImg (img C σ))).2 = 0 then ({ σ with tail := 0, loose := 0, ss := w1 σ.ss }, (snapJ J (encImg (img C σ))).1, 0)
  else if (snapJ J (encImg (img C σ))).2 = 18 then (σ, (snapJ J (encImg (img C σ))).1, 17)
  else ({ σ with down := true }, (snapJ J (encImg (img C σ))).1, 19)
def aftS (C : Cfg) (σ : Sg) (J : Jr) : Sg × Jr × Int :=
  if σ.tail < C.se then (σ, J, 0) else ((snapS C σ J).1, (snapS C σ J).2.1, if (snapS C σ J).2.2 = 19 then 19 else 0)
def roomS (C : Cfg) (σ : Sg) (J : Jr) (n : Int) : Sg × Jr × Int :=
  if n ≤ roomR J then (σ, J, 0) else if σ.tail = 0 then (σ, J, 17)
  else if (snapS C σ J).2.2 = 0 then ((snapS C σ J).1, (snapS C σ J).2.1, if roomR (snapS C σ J).2.1 < n then 17 else 0)
  else snapS C σ J
def wrtS (σ : Sg) (J : Jr) (x : List Int) : Sg × Jr × Int :=
  if (appJ J x).2 = 0 then ({ σ with seq := σ.seq + 1, tail := σ.tail + 1, loose := σ.loose + 1 }, (appJ J x).1, 0) else ({ σ with down := true }, (appJ J x).1, 19)
def setS (C : Cfg) (σ : Sg) (J : Jr) : Sg × Jr × Int :=
  if σ.down = true then (σ, J, 19) else if σ.loose = 0 then (σ, J, 0)
  else if (comJ J).2 = 0 then aftS C { σ with loose := 0 } (comJ J).1 else ({ σ with down := true }, (comJ J).1, 19)
section
variable {F G M0 M M' S V : Nat → Prop} {w w' w0 w1 w4 : World} {v rv lv iv va vt env : Value} {l : List Value} {n wb e t b c pb : Nat} {C : Cfg} {K : Value → World → Prop} {m0 m m' m4 : Me} {σ σ' : Sg} {J J' : Jr} {q : Rq} {p : Rp} {code : Int} {lob' : Option Nat}
theorem rf_get {k : Nat} (hl : σ.rf.length = 23) (hk : k < 23) : (C.cells va vt ++ σ.cells m env)[28 + k]? = some (I (σ.rf[k]?.getD 0)) := by
  unfold Sg.cells
  rw [← List.append_assoc, List.getElem?_append_right (by simp [Cfg.cells]), show 28 + k - _ = k from by simp [Cfg.cells], List.getElem?_append_left (by simp; omega), List.getElem?_map, List.getElem?_eq_getElem (by omega)]
  rfl
theorem rf_set {k : Nat} {x : Int} (hl : σ.rf.length = 23) (hk : k < 23) : (C.cells va vt ++ σ.cells m env).set (28 + k) (I x) = C.cells va vt ++ ({ σ with rf := σ.rf.set k x } : Sg).cells m env := by
  unfold Sg.cells
  rw [← List.append_assoc, List.set_append_right _ _ (by simp [Cfg.cells]), show 28 + k - _ = k from by simp [Cfg.cells], List.set_append_left _ _ (by simp; omega), List.append_assoc]
  simp only [List.map_set]
/-- the journal is turned -/
theorem En.jrn (h : En M w e m C σ J) (hx : Ext M M' w w') (hk : Kp S w w') (hS : ∀ b, S b → OwnJ m.j m.lob b) (jn : Jn M' w' m.j lob' J') : En M' w' e { m with lob := lob' } C σ J' := by
  have hne := fun {b : Nat} => h.neE (b := b)
  have hSM : ∀ b, S b → b < w.heap.size → M b := fun b q _ => h.own (.inr (.inr (.inr (.inl (hS b q)))))
  have h0 := h
  obtain ⟨va, vt, env, r, hc, hs, hm⟩ := h.ex
  refine ⟨⟨va, vt, env, hk.row r fun q => hne (.inr (.inr (.inl (hS e q)))) rfl, hc.ext hx hk hSM, hs.kp hk fun b q q2 => h0.dJN (hS b q2) q, fun b q => hx.sub b (hm b q)⟩, h.tb.ext hx hk hSM fun b q q2 => h0.dTJ q (hS b q2), h.li.ext hx hk hSM fun b q q2 => h0.dLJ q (hS b q2), jn, hx.sub e h.me, h.rf⟩
theorem Es.jrn (s : Es M0 w0 e m0 C V w M m σ J) (hx : Ext M M' w w') (hk : Kp S w w') (hS : ∀ b, S b → OwnJ m.j m.lob b) (jn : Jn M' w' m.j lob' J') (ho : ∀ b, lob' = some b → m.lob = some b ∨ w.heap.size ≤ b) : Es M0 w0 e m0 C V w' M' { m with lob := lob' } σ J' := by
  refine s.own hx hk (fun b q => .inr (.inr (.inr (.inl (hS b q))))) rfl (fun b q => ?_) (s.en.jrn hx hk hS jn)
  rcases q with q | q | q | q | q
  · exact .inl (.inl q)
  · exact .inl (.inr (.inl q))
  · exact .inl (.inr (.inr (.inl q)))
  · rcases q with q | q
    · exact .inl (.inr (.inr (.inr (.inl (.inl q)))))
    · exact (ho b q).imp (fun q => .inr (.inr (.inr (.inl (.inr q))))) id
  · exact .inl (.inr (.inr (.inr (.inr q))))
theorem refuse_ok (h : En M w e m C σ J) (hK : EnK M w e m C (refS code σ) J fun w' m' => m' = m → K (.agg ((rf code).cells nilS nilS nilS).toArray) w') : cl Tryz.prog 178 #[P e 0, I code] K w := by
  have hrf := h.rf
  apply c178
  unfold s178_p4
  refine nw_r fun w1 r1 hk1 hz1 => ?_
  replace r1 : Row w1 w.heap.size 94 (rp0.cells nilS nilS nilS) := r1
  have s1 := (Es.start h).new hk1 (Nat.le_refl _) (by omega)
  have fin : ∀ (σ' : Sg) (w2 : World) (M2 : Nat → Prop), Es M w e m C (fun b => Emp b ∨ b = w.heap.size) w2 M2 m σ' J → Row w2 w.heap.size 94 (rp0.cells nilS nilS nilS) → refS code σ = σ' → s178_p1 K (I code) (P w.heap.size 0) w2 := by
    intro σ' w2 M2 s2 r2 e2
    rw [e2] at hK
    unfold s178_p1
    refine refusal_ok fun w3 hk3 => ?_
    refine stn_r (cs := (rf code).cells nilS nilS nilS) (hk3.row' r2) rfl (show 0 + 34 ≤ 34 by decide) (Rp.sc rfl rfl rfl) fun w4 r4 hk4 hz4 => ?_
    replace r4 : Row w4 w.heap.size 94 ((rf code).cells nilS nilS nilS) := r4
    refine ldn_r r4 (show 0 + 34 ≤ 34 by decide) ?_
    exact ((s2.emp hk3).wr hk4 fun b (q : b = _) => .inr q).done hK rfl
  unfold s178_p3
  try simp only [e_fd, e_nck, e_pkt, e_pkf, e_gdtt, e_gdtf, e_gdft, e_gdff, e_ift, e_iff, e_not, e_ln, e_lnT, e_cp, e_cvi, e_ex20, e_ex21, e_ex30, e_ex31, e_ex32, e_add, e_sub, e_mul, e_quo, e_rem, e_and, e_or, e_xor, e_shl, e_shr, e_eql, e_neq, e_lss, e_leq, e_gtr, e_geq, e_beq, e_bne, e_peq1, e_peq2, e_pne1, e_pne2, e_zeq1, e_zeq2, e_zne1, e_zne2, e_feq1, e_fne1, e_feq2, e_fne2, e_seq, e_sne, e_ta1, e_ta2, Nat.zero_add, Nat.add_zero, Bool.not_true, Bool.not_false]
  by_cases h1 : 0 < code
  · simp only [h1, decide_true, e_fd, e_nck, e_pkt, e_pkf, e_gdtt, e_gdtf, e_gdft, e_gdff, e_ift, e_iff, e_not, e_ln, e_lnT, e_cp, e_cvi, e_ex20, e_ex21, e_ex30, e_ex31, e_ex32, e_add, e_sub, e_mul, e_quo, e_rem, e_and, e_or, e_xor, e_shl, e_shr, e_eql, e_neq, e_lss, e_leq, e_gtr, e_geq, e_beq, e_bne, e_peq1, e_peq2, e_pne1, e_pne2, e_zeq1, e_zeq2, e_zne1, e_zne2, e_feq1, e_fne1, e_feq2, e_fne2, e_seq, e_sne, e_ta1, e_ta2, Nat.zero_add, Nat.add_zero, Bool.not_true, Bool.not_false]
    by_cases h2 : code < 23
    · simp only [h2, decide_true, e_fd, e_nck, e_pkt, e_pkf, e_gdtt, e_gdtf, e_gdft, e_gdff, e_ift, e_iff, e_not, e_ln, e_lnT, e_cp, e_cvi, e_ex20, e_ex21, e_ex30, e_ex31, e_ex32, e_add, e_sub, e_mul, e_quo, e_rem, e_and, e_or, e_xor, e_shl, e_shr, e_eql, e_neq, e_lss, e_leq, e_gtr, e_geq, e_beq, e_bne, e_peq1, e_peq2, e_pne1, e_pne2, e_zeq1, e_zeq2, e_zne1, e_zne2, e_feq1, e_fne1, e_feq2, e_fne2, e_seq, e_sne, e_ta1, e_ta2, Nat.zero_add, Nat.add_zero, Bool.not_true, Bool.not_false]
      unfold s178_p2 s178_p2_d
      have kd : Kp Emp w1 (drw w1) := kp_drw
      generalize drw w1 = w2 at kd ⊢
      have s2 := s1.emp kd
      have r2 := kd.row' r1
      obtain ⟨va, vt, env, re⟩ := s2.row
      obtain ⟨k, hk⟩ : ∃ k : Nat, code = k := ⟨code.toNat, by omega⟩
      have ek : (((k : Nat) : Int)).toNat * 1 = k := by omega
      have hkk : k < 23 := by omega
      try simp only [e_fd, e_nck, e_pkt, e_pkf, e_gdtt, e_gdtf, e_gdft, e_gdff, e_ift, e_iff, e_not, e_ln, e_lnT, e_cp, e_cvi, e_ex20, e_ex21, e_ex30, e_ex31, e_ex32, e_add, e_sub, e_mul, e_quo, e_rem, e_and, e_or, e_xor, e_shl, e_shr, e_eql, e_neq, e_lss, e_leq, e_gtr, e_geq, e_beq, e_bne, e_peq1, e_peq2, e_pne1, e_pne2, e_zeq1, e_zeq2, e_zne1, e_zne2, e_feq1, e_fne1, e_feq2, e_fne2, e_seq, e_sne, e_ta1, e_ta2, Nat.zero_add, Nat.add_zero, Bool.not_true, Bool.not_false]
      rw [hk]
      refine ⟨⟨by omega, by omega⟩, ?_⟩
      rw [ek, add_mk]
      refine ld1_r re (rf_get hrf hkk) ?_
      try simp only [e_fd, e_nck, e_pkt, e_pkf, e_gdtt, e_gdtf, e_gdft, e_gdff, e_ift, e_iff, e_not, e_ln, e_lnT, e_cp, e_cvi, e_ex20, e_ex21, e_ex30, e_ex31, e_ex32, e_add, e_sub, e_mul, e_quo, e_rem, e_and, e_or, e_xor, e_shl, e_shr, e_eql, e_neq, e_lss, e_leq, e_gtr, e_geq, e_beq, e_bne, e_peq1, e_peq2, e_pne1, e_pne2, e_zeq1, e_zeq2, e_zne1, e_zne2, e_feq1, e_fne1, e_feq2, e_fne2, e_seq, e_sne, e_ta1, e_ta2, Nat.zero_add, Nat.add_zero, Bool.not_true, Bool.not_false]
      refine ⟨⟨by omega, by omega⟩, ?_⟩
      rw [ek, add_mk]
      refine s2.st { σ with rf := σ.rf.set k (Go.Proofs.Qxb6500896aGreat.w1 (σ.rf[k]?.getD 0)) } (by omega) rfl (fun va vt env => rf_set hrf hkk) rfl ⟨rfl, rfl⟩ (by simp only [List.length_set]; exact hrf) fun w3 s3 hk3 hz3 => ?_
      rw [← hk]
      refine fin _ w3 _ s3 (hk3.row r2 (s2.nV (.inr rfl) (.inl rfl))) ?_
      unfold refS
      rw [if_pos ⟨h1, h2⟩, hk, Int.toNat_natCast]
    · simp only [h2, decide_false, e_fd, e_nck, e_pkt, e_pkf, e_gdtt, e_gdtf, e_gdft, e_gdff, e_ift, e_iff, e_not, e_ln, e_lnT, e_cp, e_cvi, e_ex20, e_ex21, e_ex30, e_ex31, e_ex32, e_add, e_sub, e_mul, e_quo, e_rem, e_and, e_or, e_xor, e_shl, e_shr, e_eql, e_neq, e_lss, e_leq, e_gtr, e_geq, e_beq, e_bne, e_peq1, e_peq2, e_pne1, e_pne2, e_zeq1, e_zeq2, e_zne1, e_zne2, e_feq1, e_fne1, e_feq2, e_fne2, e_seq, e_sne, e_ta1, e_ta2, Nat.zero_add, Nat.add_zero, Bool.not_true, Bool.not_false]
      exact fin σ w1 _ s1 r1 (by unfold refS; rw [if_neg (by omega)])
  · simp only [h1, decide_false, e_fd, e_nck, e_pkt, e_pkf, e_gdtt, e_gdtf, e_gdft, e_gdff, e_ift, e_iff, e_not, e_ln, e_lnT, e_cp, e_cvi, e_ex20, e_ex21, e_ex30, e_ex31, e_ex32, e_add, e_sub, e_mul, e_quo, e_rem, e_and, e_or, e_xor, e_shl, e_shr, e_eql, e_neq, e_lss, e_leq, e_gtr, e_geq, e_beq, e_bne, e_peq1, e_peq2, e_pne1, e_pne2, e_zeq1, e_zeq2, e_zne1, e_zne2, e_feq1, e_fne1, e_feq2, e_fne2, e_seq, e_sne, e_ta1, e_ta2, Nat.zero_add, Nat.add_zero, Bool.not_true, Bool.not_false]
    exact fin σ w1 _ s1 r1 (by unfold refS; rw [if_neg (by omega)])
theorem snapE_ok (cv : CV C) (hmb : C.mb ≤ 1000000) (g : Gd C σ.seq σ.now σ.rs σ.ls) (h : En M w e m C σ J)
    (hK : EnK M w e m C (snapS C σ J).1 (snapS C σ J).2.1 fun w' m' => K (I (snapS C σ J).2.2) w') : cl Tryz.prog 143 #[P e 0] K w := by
  have hlen := g.len
  have hw : lens σ.ls ≤ 1000000 := by
    rw [← g.li.wt g.ids]
    have : waits σ.rs ≤ σ.rs.length := List.countP_le_length
    omega
  have hll := g.li.len
  have al := cv.al.2
  apply c143
  unfold s143_p3 s143_p2 s143_p2_d
  have kd : Kp Emp w (drw w) := kp_drw
  generalize drw w = w1 at kd ⊢
  have s1 := (Es.start h).emp kd
  obtain ⟨va, vt, env, re⟩ := s1.row
  try simp only [e_fd, e_nck, e_pkt, e_pkf, e_gdtt, e_gdtf, e_gdft, e_gdff, e_ift, e_iff, e_not, e_ln, e_lnT, e_cp, e_cvi, e_ex20, e_ex21, e_ex30, e_ex31, e_ex32, e_add, e_sub, e_mul, e_quo, e_rem, e_and, e_or, e_xor, e_shl, e_shr, e_eql, e_neq, e_lss, e_leq, e_gtr, e_geq, e_beq, e_bne, e_peq1, e_peq2, e_pne1, e_pne2, e_zeq1, e_zeq2, e_zne1, e_zne2, e_feq1, e_fne1, e_feq2, e_fne2, e_seq, e_sne, e_ta1, e_ta2, Nat.zero_add, Nat.add_zero, Bool.not_true, Bool.not_false]
  refine ld1_r re rfl ?_
  refine image_ok s1.en cv.cok (fun r hr => by have := (g.rn r hr).ll; omega) hll fun w2 rv lv hk2 hri hrw => ⟨hk2.below', ?_⟩
  refine encImg_ok (im := img C σ) (g.imn cv _) (fp_N C) hri hrw (fun b q => q.2) (by show σ.rs.length ≤ _; omega) hw (by show σ.ls.length ≤ _; omega) fun w3 v3 b3 s3 hb3 hk3 => ⟨(hk2.trans hk3).below', ?_⟩
  have k3 := hk2.trans hk3
  have e3 := s1.emp k3
  have hel : (encImg (img C σ)).length ≤ 1000000000 := by
    have : (encImg (img C σ)).length ≤ 46 + 207 * σ.rs.length + 9 * σ.ls.length + 9 * lens σ.ls := encImg_len (im := img C σ) (fun r hr => (g.rn r hr).ll)
    omega
  have hxl := s3.ar bC_len (F := Im M w3) (by omega) (fun b q => by cases q; exact ⟨fun q => by have := s1.en.lt _ q; have := hb3.1; have := hk2.size; omega, s3.lt⟩)
  refine snapshot_ok e3.en.jn hxl fun w4 lob4 hk4 ho4 jn4 => ?_
  have s4 := e3.jrn (Ext.same e3.en.lt hk4) hk4 (fun b (q : b = m.j) => .inl q) jn4 fun b q => by
    rcases ho4 with q2 | q2
    · exact .inl (q2 ▸ q)
    · rw [q2] at q; cases q
  unfold snapS at hK
  generalize snapJ J (encImg (img C σ)) = r at hK s4 ⊢
  unfold s143_p1
  try simp only [e_fd, e_nck, e_pkt, e_pkf, e_gdtt, e_gdtf, e_gdft, e_gdff, e_ift, e_iff, e_not, e_ln, e_lnT, e_cp, e_cvi, e_ex20, e_ex21, e_ex30, e_ex31, e_ex32, e_add, e_sub, e_mul, e_quo, e_rem, e_and, e_or, e_xor, e_shl, e_shr, e_eql, e_neq, e_lss, e_leq, e_gtr, e_geq, e_beq, e_bne, e_peq1, e_peq2, e_pne1, e_pne2, e_zeq1, e_zeq2, e_zne1, e_zne2, e_feq1, e_fne1, e_feq2, e_fne2, e_seq, e_sne, e_ta1, e_ta2, Nat.zero_add, Nat.add_zero, Bool.not_true, Bool.not_false]
  by_cases h0 : r.2 = 0
  · rw [if_pos h0] at hK
    have e0 : (r.2 == 0) = true := by rw [h0]; rfl
    simp only [e0, e_fd, e_nck, e_pkt, e_pkf, e_gdtt, e_gdtf, e_gdft, e_gdff, e_ift, e_iff, e_not, e_ln, e_lnT, e_cp, e_cvi, e_ex20, e_ex21, e_ex30, e_ex31, e_ex32, e_add, e_sub, e_mul, e_quo, e_rem, e_and, e_or, e_xor, e_shl, e_shr, e_eql, e_neq, e_lss, e_leq, e_gtr, e_geq, e_beq, e_bne, e_peq1, e_peq2, e_pne1, e_pne2, e_zeq1, e_zeq2, e_zne1, e_zne2, e_feq1, e_fne1, e_feq2, e_fne2, e_seq, e_sne, e_ta1, e_ta2, Nat.zero_add, Nat.add_zero, Bool.not_true, Bool.not_false]
    refine s4.st { σ with tail := 0 } (by decide) rfl (fun va vt env => rfl) rfl ⟨rfl, rfl⟩ h.rf fun w5 s5 hk5 hz5 => ?_
    try simp only [e_fd, e_nck, e_pkt, e_pkf, e_gdtt, e_gdtf, e_gdft, e_gdff, e_ift, e_iff, e_not, e_ln, e_lnT, e_cp, e_cvi, e_ex20, e_ex21, e_ex30, e_ex31, e_ex32, e_add, e_sub, e_mul, e_quo, e_rem, e_and, e_or, e_xor, e_shl, e_shr, e_eql, e_neq, e_lss, e_leq, e_gtr, e_geq, e_beq, e_bne, e_peq1, e_peq2, e_pne1, e_pne2, e_zeq1, e_zeq2, e_zne1, e_zne2, e_feq1, e_fne1, e_feq2, e_fne2, e_seq, e_sne, e_ta1, e_ta2, Nat.zero_add, Nat.add_zero, Bool.not_true, Bool.not_false]
    refine s5.st { σ with tail := 0, loose := 0 } (by decide) rfl (fun va vt env => rfl) rfl ⟨rfl, rfl⟩ h.rf fun w6 s6 hk6 hz6 => ?_
    obtain ⟨va6, vt6, env6, re6⟩ := s6.row
    try simp only [e_fd, e_nck, e_pkt, e_pkf, e_gdtt, e_gdtf, e_gdft, e_gdff, e_ift, e_iff, e_not, e_ln, e_lnT, e_cp, e_cvi, e_ex20, e_ex21, e_ex30, e_ex31, e_ex32, e_add, e_sub, e_mul, e_quo, e_rem, e_and, e_or, e_xor, e_shl, e_shr, e_eql, e_neq, e_lss, e_leq, e_gtr, e_geq, e_beq, e_bne, e_peq1, e_peq2, e_pne1, e_pne2, e_zeq1, e_zeq2, e_zne1, e_zne2, e_feq1, e_fne1, e_feq2, e_fne2, e_seq, e_sne, e_ta1, e_ta2, Nat.zero_add, Nat.add_zero, Bool.not_true, Bool.not_false]
    refine ld1_r re6 rfl ?_
    try simp only [e_fd, e_nck, e_pkt, e_pkf, e_gdtt, e_gdtf, e_gdft, e_gdff, e_ift, e_iff, e_not, e_ln, e_lnT, e_cp, e_cvi, e_ex20, e_ex21, e_ex30, e_ex31, e_ex32, e_add, e_sub, e_mul, e_quo, e_rem, e_and, e_or, e_xor, e_shl, e_shr, e_eql, e_neq, e_lss, e_leq, e_gtr, e_geq, e_beq, e_bne, e_peq1, e_peq2, e_pne1, e_pne2, e_zeq1, e_zeq2, e_zne1, e_zne2, e_feq1, e_fne1, e_feq2, e_fne2, e_seq, e_sne, e_ta1, e_ta2, Nat.zero_add, Nat.add_zero, Bool.not_true, Bool.not_false]
    refine s6.st { σ with tail := 0, loose := 0, ss := Go.Proofs.Qxb6500896aGreat.w1 σ.ss } (by decide) rfl (fun va vt env => rfl) rfl ⟨rfl, rfl⟩ h.rf fun w7 s7 hk7 hz7 => ?_
    exact s7.done hK
  · rw [if_neg h0] at hK
    have e0 : (r.2 == 0) = false := beq_eq_false_iff_ne.2 h0
    simp only [e0, e_fd, e_nck, e_pkt, e_pkf, e_gdtt, e_gdtf, e_gdft, e_gdff, e_ift, e_iff, e_not, e_ln, e_lnT, e_cp, e_cvi, e_ex20, e_ex21, e_ex30, e_ex31, e_ex32, e_add, e_sub, e_mul, e_quo, e_rem, e_and, e_or, e_xor, e_shl, e_shr, e_eql, e_neq, e_lss, e_leq, e_gtr, e_geq, e_beq, e_bne, e_peq1, e_peq2, e_pne1, e_pne2, e_zeq1, e_zeq2, e_zne1, e_zne2, e_feq1, e_fne1, e_feq2, e_fne2, e_seq, e_sne, e_ta1, e_ta2, Nat.zero_add, Nat.add_zero, Bool.not_true, Bool.not_false]
    by_cases h1 : r.2 = 18
    · rw [if_pos h1] at hK
      have e1 : (r.2 == 18) = true := by rw [h1]; rfl
      simp only [e1, e_fd, e_nck, e_pkt, e_pkf, e_gdtt, e_gdtf, e_gdft, e_gdff, e_ift, e_iff, e_not, e_ln, e_lnT, e_cp, e_cvi, e_ex20, e_ex21, e_ex30, e_ex31, e_ex32, e_add, e_sub, e_mul, e_quo, e_rem, e_and, e_or, e_xor, e_shl, e_shr, e_eql, e_neq, e_lss, e_leq, e_gtr, e_geq, e_beq, e_bne, e_peq1, e_peq2, e_pne1, e_pne2, e_zeq1, e_zeq2, e_zne1, e_zne2, e_feq1, e_fne1, e_feq2, e_fne2, e_seq, e_sne, e_ta1, e_ta2, Nat.zero_add, Nat.add_zero, Bool.not_true, Bool.not_false]
      exact s4.done hK
    · rw [if_neg h1] at hK
      have e1 : (r.2 == 18) = false := beq_eq_false_iff_ne.2 h1
      simp only [e1, e_fd, e_nck, e_pkt, e_pkf, e_gdtt, e_gdtf, e_gdft, e_gdff, e_ift, e_iff, e_not, e_ln, e_lnT, e_cp, e_cvi, e_ex20, e_ex21, e_ex30, e_ex31, e_ex32, e_add, e_sub, e_mul, e_quo, e_rem, e_and, e_or, e_xor, e_shl, e_shr, e_eql, e_neq, e_lss, e_leq, e_gtr, e_geq, e_beq, e_bne, e_peq1, e_peq2, e_pne1, e_pne2, e_zeq1, e_zeq2, e_zne1, e_zne2, e_feq1, e_fne1, e_feq2, e_fne2, e_seq, e_sne, e_ta1, e_ta2, Nat.zero_add, Nat.add_zero, Bool.not_true, Bool.not_false]
      refine s4.st { σ with down := true } (by decide) rfl (fun va vt env => rfl) rfl ⟨rfl, rfl⟩ h.rf fun w5 s5 hk5 hz5 => ?_
      exact s5.done hK
end
end Go.Proofs.Qxb6500896aGreat
