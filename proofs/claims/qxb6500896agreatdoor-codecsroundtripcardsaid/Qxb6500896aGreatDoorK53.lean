import Derived.Test.Qxb6500896aGreatDoorK52
namespace Go.Proofs.Qxb6500896aGreatDoor
open Go.Sh Go.RowKit
set_option linter.unusedVariables false
set_option linter.unusedSimpArgs false

/-- a reply as plain values -/
structure Rp where
  code : Int
  op : Int
  id : Int
  ex : Int
  pos : Int
  st : Int
  now : Int
  iss : List Iss
  exd : Int
  ns : Int
  lp : Int
  recs : List Rec
  nx : Int
  oc : Int
  e0 : Int
  e1 : Int
  e2 : Int
  fr : Int
  wt : List Int
  la : Int
  gr : Int
  sl : Int
  cnt : List Int
  at' : Int
  ah : Int
def rp0 : Rp := ⟨0, 0, 0, 0, 0, 0, 0, [], 0, 0, 0, [], 0, 0, 0, 0, 0, 0, [], 0, 0, 0, [0, 0, 0, 0, 0, 0, 0, 0, 0, 0], 0, 0⟩
/-- a refusal -/
def rf (code : Int) : Rp := { rp0 with code := code }
def Rp.cells (p : Rp) (iv rv wv : Value) : List Value :=
  [I p.code, U8 p.op, I p.id, I p.ex, I p.pos, I p.st, I p.now, iv, I p.exd, I p.ns, I p.lp, rv, I p.nx, I p.oc, I p.e0, I p.e1, I p.e2, I p.fr, wv, I p.la, I p.gr, I p.sl] ++ (p.cnt.map I ++ [I p.at', I p.ah])
/-- a reply in memory -/
def Rv (F : Nat → Prop) (w : World) (l : List Value) (p : Rp) : Prop :=
  ∃ iv rv wv, l = p.cells iv rv wv ∧ Ar isC2 2 F w iv p.iss ∧ Ro F w rv p.recs ∧ Ar iC 1 F w wv p.wt ∧ p.cnt.length = 10
abbrev zRep : Array Value := #[I 0, U8 0, I 0, I 0, I 0, I 0, I 0, nilS, I 0, I 0, I 0, nilS, I 0, I 0, I 0, I 0, I 0, I 0, nilS, I 0, I 0, I 0, I 0, I 0, I 0, I 0, I 0, I 0, I 0, I 0, I 0, I 0, I 0, I 0]
theorem Rp.len {p : Rp} {iv rv wv : Value} (h : p.cnt.length = 10) : (p.cells iv rv wv).length = 34 := by simp [Rp.cells, h]
theorem Rp.sc {p : Rp} {iv rv wv : Value} (h1 : scal iv = true) (h2 : scal rv = true) (h3 : scal wv = true) : (p.cells iv rv wv).all scal = true := by
  unfold Rp.cells
  rw [List.all_append, List.all_append]
  have : (p.cnt.map I).all scal = true := by rw [List.all_map]; exact List.all_eq_true.2 fun x _ => rfl
  rw [this]
  simp only [List.all_cons, List.all_nil, h1, h2, h3]
  rfl
section
variable {F G M M' S : Nat → Prop} {w w' w0 w1 : World} {v rv lv : Value} {l : List Value} {n wb e t b : Nat} {rob : Option Nat} {lobs : List (Option Nat)} {C : Cfg} {ls : List (List Int)} {rs : List Rec} {K : Value → World → Prop} {m : Me} {σ : Sg} {J : Jr} {q : Rq} {p : Rp} {code : Int}
theorem Rv.kp (h : Rv F w l p) (hk : Kp S w w') (hn : ∀ b, F b → ¬ S b) : Rv F w' l p := by
  obtain ⟨iv, rv, wv, e, h1, ⟨its, a1, a2, a3⟩, h3, h4⟩ := h
  exact ⟨iv, rv, wv, e, h1.kp hk hn, ⟨its, a1, a2.kp hk hn, fun p hp => (a3 p hp).kp hk hn⟩, h3.kp hk hn, h4⟩
theorem Rv.mono (h : Rv F w l p) (hs : ∀ b, F b → G b) : Rv G w l p := by
  obtain ⟨iv, rv, wv, e, h1, ⟨its, a1, a2, a3⟩, h3, h4⟩ := h
  exact ⟨iv, rv, wv, e, h1.mono hs, ⟨its, a1, a2.mono hs, fun p hp => (a3 p hp).mono hs⟩, h3.mono hs, h4⟩
theorem Rv.len (h : Rv F w l p) : l.length = 34 := by
  obtain ⟨iv, rv, wv, e, h1, _, h3, h4⟩ := h
  rw [e]; exact Rp.len h4
theorem Rv.sc (h : Rv F w l p) : l.all scal = true := by
  obtain ⟨iv, rv, wv, e, h1, ⟨its, a1, a2, a3⟩, h3, h4⟩ := h
  rw [e]; exact Rp.sc h1.scal a2.scal h3.scal
/-- a reply without lists -/
theorem Rv.plain (h1 : p.iss = []) (h2 : p.recs = []) (h3 : p.wt = []) (h4 : p.cnt.length = 10) : Rv F w (p.cells nilS nilS nilS) p :=
  ⟨nilS, nilS, nilS, rfl, by rw [h1]; exact Ar.nil, ⟨[], by rw [h2]; rfl, Ar.nil, fun p hp => by cases hp⟩, by rw [h3]; exact Ar.nil, h4⟩
theorem refusal_ok (hK : ∀ w', Kp Emp w w' → K (.agg ((rf code).cells nilS nilS nilS).toArray) w') : cl Tryz.prog 65 #[I code] K w := by
  apply c65
  unfold s65_p1
  refine nw_r fun w1 r1 hk1 hz1 => ?_
  refine bdq_r (l := (rf code).cells nilS nilS nilS) rfl ?_
  refine stn_r (cs := (rf code).cells nilS nilS nilS) r1 rfl (show 0 + 34 ≤ 34 by decide) (Rp.sc rfl rfl rfl) fun w2 r2 hk2 hz2 => ?_
  refine ldn_r r2 (show 0 + 34 ≤ 34 by decide) ?_
  exact hK w2 (hk1.then hk2 fun k hk (q : k = _) => by omega)
/-! ### the parts of an engine lie apart -/
theorem En.tyT (h : En M w e m C σ J) (hb : OwnT m.t m.rob b) : ∃ T l, Row w b T l ∧ (T = 190 ∨ T = 66) := by
  obtain ⟨cl, rv, r1, _, its, _, s1, _⟩ := h.tb.ex
  rcases hb with q | q
  · exact ⟨_, _, q ▸ r1, .inl rfl⟩
  · obtain ⟨l, hl⟩ := s1.row q
    exact ⟨_, _, hl, .inr rfl⟩
theorem En.tyL (h : En M w e m C σ J) (hb : OwnL m.n m.wb m.lobs b) : ∃ T l, Row w b T l ∧ (T = 192 ∨ T = 43 ∨ T = 3) := by
  obtain ⟨cl, its, r1, _, h1, h2, h3, h4, _⟩ := h.li.ex
  rcases hb with q | q | q
  · exact ⟨_, _, q ▸ r1, .inl rfl⟩
  · exact ⟨_, _, q ▸ h3, .inr (.inl rfl)⟩
  · rw [← h2] at q
    obtain ⟨p, hp, hb⟩ := List.mem_map.1 q
    obtain ⟨l, hl⟩ := (h4 p hp).1.row hb
    exact ⟨_, _, hl, .inr (.inr rfl)⟩
theorem En.tyJ (h : En M w e m C σ J) (hb : OwnJ m.j m.lob b) : ∃ T l, Row w b T l ∧ (T = 94 ∨ T = 35) := by
  obtain ⟨sv, lv, r1, _, evs, s1, _⟩ := h.jn.ex
  rcases hb with q | q
  · exact ⟨_, _, q ▸ r1, .inl rfl⟩
  · obtain ⟨l, hl⟩ := s1.row q
    exact ⟨_, _, hl, .inr rfl⟩
theorem En.tyN (h : En M w e m C σ J) (hb : m.en = some b) : ∃ l, Row w b 5 l := by
  obtain ⟨va, vt, env, r, hc, hs, _⟩ := h.ex
  exact hs.row hb
theorem row_ty {T T' : TypeId} {l l' : List Value} (h : Row w b T l) (h' : Row w b T' l') : T = T' := by
  by_cases q : T = T'
  · exact q
  · exact absurd rfl (row_ne h h' q)
theorem En.dTJ (h : En M w e m C σ J) (h1 : OwnT m.t m.rob b) (h2 : OwnJ m.j m.lob b) : False := by
  obtain ⟨T, l, r, q⟩ := h.tyT h1
  obtain ⟨T', l', r', q'⟩ := h.tyJ h2
  have := row_ty r r'
  subst this
  rcases q with rfl | rfl <;> revert q' <;> decide
theorem En.dLJ (h : En M w e m C σ J) (h1 : OwnL m.n m.wb m.lobs b) (h2 : OwnJ m.j m.lob b) : False := by
  obtain ⟨T, l, r, q⟩ := h.tyL h1
  obtain ⟨T', l', r', q'⟩ := h.tyJ h2
  have := row_ty r r'
  subst this
  rcases q with rfl | rfl | rfl <;> revert q' <;> decide
theorem En.dTN (h : En M w e m C σ J) (h1 : OwnT m.t m.rob b) (h2 : m.en = some b) : False := by
  obtain ⟨T, l, r, q⟩ := h.tyT h1
  obtain ⟨l', r'⟩ := h.tyN h2
  have := row_ty r r'
  subst this
  revert q; decide
theorem En.dLN (h : En M w e m C σ J) (h1 : OwnL m.n m.wb m.lobs b) (h2 : m.en = some b) : False := by
  obtain ⟨T, l, r, q⟩ := h.tyL h1
  obtain ⟨l', r'⟩ := h.tyN h2
  have := row_ty r r'
  subst this
  revert q; decide
theorem En.dJN (h : En M w e m C σ J) (h1 : OwnJ m.j m.lob b) (h2 : m.en = some b) : False := by
  obtain ⟨T, l, r, q⟩ := h.tyJ h1
  obtain ⟨l', r'⟩ := h.tyN h2
  have := row_ty r r'
  subst this
  revert q; decide
/-- table and lines are turned, the rest stays -/
theorem En.parts {rs' : List Rec} {ls' : List (List Int)} {rob' : Option Nat} {lobs' : List (Option Nat)} (h : En M w e m C σ J) (hx : Ext M M' w w') (hk : Kp S w w') (hS : ∀ b, S b → OwnT m.t m.rob b ∨ OwnL m.n m.wb m.lobs b)
    (tb : Tb M' w' m.t rob' C rs') (li : Li M' w' m.n m.wb lobs' C ls') : En M' w' e { m with rob := rob', lobs := lobs' } C { σ with rs := rs', ls := ls' } J := by
  have hne := fun {b : Nat} => h.neE (b := b)
  have hSM : ∀ b, S b → b < w.heap.size → M b := fun b q _ => (hS b q).elim (fun q => h.own (.inr (.inl q))) (fun q => h.own (.inr (.inr (.inl q))))
  have h0 := h
  obtain ⟨va, vt, env, r, hc, hs, hm⟩ := h.ex
  refine ⟨⟨va, vt, env, hk.row r fun q => ?_, hc.ext hx hk hSM, hs.kp hk fun b q q2 => ?_, fun b q => hx.sub b (hm b q)⟩, tb, li, h.jn.ext hx hk hSM fun b q q2 => ?_, hx.sub e h.me, h.rf⟩
  · rcases hS e q with q | q
    · exact hne (.inl q) rfl
    · exact hne (.inr (.inl q)) rfl
  · exact (hS b q2).elim (fun q3 => h0.dTN q3 q) (fun q3 => h0.dLN q3 q)
  · exact (hS b q2).elim (fun q3 => h0.dTJ q3 q) (fun q3 => h0.dLJ q3 q)
theorem En.tbl {rs' : List Rec} {rob' : Option Nat} (h : En M w e m C σ J) (hx : Ext M M' w w') (hk : Kp (OwnT m.t m.rob) w w') (tb : Tb M' w' m.t rob' C rs') : En M' w' e { m with rob := rob' } C { σ with rs := rs' } J :=
  h.parts hx hk (fun b q => .inl q) tb (li_tb h.tb h.li hx hk)
/-- what follows a step of the engine -/
abbrev EnK (M : Nat → Prop) (w : World) (e : Nat) (m : Me) (C : Cfg) (σ' : Sg) (J' : Jr) (X : World → Me → Prop) : Prop :=
  ∀ w' M' m', Ext M M' w w' → Kp (OwnE e m) w w' → m'.j = m.j → (∀ b, OwnE e m' b → OwnE e m b ∨ w.heap.size ≤ b) → En M' w' e m' C σ' J' → X w' m'
/-- the blocks of a reply -/
abbrev Fb (w : World) (e : Nat) (w' : World) (m' : Me) (b : Nat) : Prop := w.heap.size ≤ b ∧ b < w'.heap.size ∧ ¬ OwnE e m' b
theorem EnK.same {X : World → Me → Prop} (h : En M w e m C σ J) (hk : Kp Emp w w') (hX : EnK M w e m C σ J X) : X w' m :=
  hX w' M m (Ext.same h.lt hk) hk.none rfl (fun b q => .inl q) (h.kp' hk)
/-- how a step on one record is answered -/
def mvR (op code st : Int) : Rp := if code = 0 then { rp0 with op := op, st := st } else rf code
theorem mvR_p (op code st : Int) : (mvR op code st).iss = [] ∧ (mvR op code st).recs = [] ∧ (mvR op code st).wt = [] ∧ (mvR op code st).cnt.length = 10 := by
  unfold mvR
  split <;> exact ⟨rfl, rfl, rfl, rfl⟩
theorem moved_ok (h : En M w e m C σ J) (hb : ∀ r ∈ σ.rs, r.legs.length ≤ 1000000) (hid : N63 q.id) (hc : code = 0 → has σ.rs q.id) (hs : scal lv = true)
    (hK : ∀ w', Kp Emp w w' → K (.agg ((mvR q.op code (rget σ.rs q.id).st).cells nilS nilS nilS).toArray) w') : cl Tryz.prog 118 #[P e 0, .agg (q.cells lv).toArray, I code] K w := by
  apply c118
  unfold s118_p3
  refine nw_r fun w1 r1 hk1 hz1 => ?_
  replace r1 : Row w1 w.heap.size 49 (q.cells lv) := r1
  refine nw_r fun w2 r2 hk2 hz2 => ?_
  replace r2 : Row w2 w1.heap.size 46 (rp0.cells nilS nilS nilS) := r2
  have r12 := hk2.row' r1
  have k2 := hk1.trans hk2
  unfold mvR at hK
  simp only [nei, e_fd, e_nck, e_pkt, e_pkf, e_gdtt, e_gdtf, e_gdft, e_gdff, e_ift, e_iff, e_not, e_ln, e_lnT, e_cp, e_cvi, e_ex20, e_ex21, e_ex30, e_ex31, e_ex32, e_add, e_sub, e_mul, e_quo, e_rem, e_and, e_or, e_xor, e_shl, e_shr, e_eql, e_neq, e_lss, e_leq, e_gtr, e_geq, e_beq, e_bne, e_peq1, e_peq2, e_pne1, e_pne2, e_zeq1, e_zeq2, e_zne1, e_zne2, e_feq1, e_fne1, e_feq2, e_fne2, e_seq, e_sne, e_ta1, e_ta2, Nat.zero_add, Nat.add_zero, Bool.not_true, Bool.not_false]
  by_cases hc0 : code = 0
  · rw [if_pos hc0] at hK
    simp only [hc0, decide_true, Bool.not_true, e_fd, e_nck, e_pkt, e_pkf, e_gdtt, e_gdtf, e_gdft, e_gdff, e_ift, e_iff, e_not, e_ln, e_lnT, e_cp, e_cvi, e_ex20, e_ex21, e_ex30, e_ex31, e_ex32, e_add, e_sub, e_mul, e_quo, e_rem, e_and, e_or, e_xor, e_shl, e_shr, e_eql, e_neq, e_lss, e_leq, e_gtr, e_geq, e_beq, e_bne, e_peq1, e_peq2, e_pne1, e_pne2, e_zeq1, e_zeq2, e_zne1, e_zne2, e_feq1, e_fne1, e_feq2, e_fne2, e_seq, e_sne, e_ta1, e_ta2, Nat.zero_add, Nat.add_zero, Bool.not_true, Bool.not_false]
    unfold s118_p2 s118_p2_d
    have kd : Kp Emp w2 (drw w2) := kp_drw
    have szd : (drw w2).heap.size = w2.heap.size := rfl
    generalize drw w2 = w3 at kd szd ⊢
    have k3 := k2.trans kd
    have h3 := h.kp' k3
    obtain ⟨va, vt, env, r, _⟩ := h3.ex
    have q3 := kd.row' r12
    try simp only [e_fd, e_nck, e_pkt, e_pkf, e_gdtt, e_gdtf, e_gdft, e_gdff, e_ift, e_iff, e_not, e_ln, e_lnT, e_cp, e_cvi, e_ex20, e_ex21, e_ex30, e_ex31, e_ex32, e_add, e_sub, e_mul, e_quo, e_rem, e_and, e_or, e_xor, e_shl, e_shr, e_eql, e_neq, e_lss, e_leq, e_gtr, e_geq, e_beq, e_bne, e_peq1, e_peq2, e_pne1, e_pne2, e_zeq1, e_zeq2, e_zne1, e_zne2, e_feq1, e_fne1, e_feq2, e_fne2, e_seq, e_sne, e_ta1, e_ta2, Nat.zero_add, Nat.add_zero, Bool.not_true, Bool.not_false]
    refine ld1_r r rfl ?_
    try simp only [e_fd, e_nck, e_pkt, e_pkf, e_gdtt, e_gdtf, e_gdft, e_gdff, e_ift, e_iff, e_not, e_ln, e_lnT, e_cp, e_cvi, e_ex20, e_ex21, e_ex30, e_ex31, e_ex32, e_add, e_sub, e_mul, e_quo, e_rem, e_and, e_or, e_xor, e_shl, e_shr, e_eql, e_neq, e_lss, e_leq, e_gtr, e_geq, e_beq, e_bne, e_peq1, e_peq2, e_pne1, e_pne2, e_zeq1, e_zeq2, e_zne1, e_zne2, e_feq1, e_fne1, e_feq2, e_fne2, e_seq, e_sne, e_ta1, e_ta2, Nat.zero_add, Nat.add_zero, Bool.not_true, Bool.not_false]
    refine ld1_r q3 rfl ?_
    have hh := hc hc0
    have fin : ∀ w4 b lv4, Kp Emp w3 w4 → w3.heap.size ≤ b → Row w4 b 66 (rC (rget σ.rs q.id, lv4)) → s118_p1 K (P w.heap.size 0) (P w1.heap.size 0) (P b 0) w4 := by
      intro w4 b lv4 hk4 hb4 r4
      unfold s118_p1
      have q4 := hk4.row' q3
      have p4 := hk4.row' (kd.row' r2)
      try simp only [e_fd, e_nck, e_pkt, e_pkf, e_gdtt, e_gdtf, e_gdft, e_gdff, e_ift, e_iff, e_not, e_ln, e_lnT, e_cp, e_cvi, e_ex20, e_ex21, e_ex30, e_ex31, e_ex32, e_add, e_sub, e_mul, e_quo, e_rem, e_and, e_or, e_xor, e_shl, e_shr, e_eql, e_neq, e_lss, e_leq, e_gtr, e_geq, e_beq, e_bne, e_peq1, e_peq2, e_pne1, e_pne2, e_zeq1, e_zeq2, e_zne1, e_zne2, e_feq1, e_fne1, e_feq2, e_fne2, e_seq, e_sne, e_ta1, e_ta2, Nat.zero_add, Nat.add_zero, Bool.not_true, Bool.not_false]
      refine ld1_r q4 rfl ?_
      try simp only [e_fd, e_nck, e_pkt, e_pkf, e_gdtt, e_gdtf, e_gdft, e_gdff, e_ift, e_iff, e_not, e_ln, e_lnT, e_cp, e_cvi, e_ex20, e_ex21, e_ex30, e_ex31, e_ex32, e_add, e_sub, e_mul, e_quo, e_rem, e_and, e_or, e_xor, e_shl, e_shr, e_eql, e_neq, e_lss, e_leq, e_gtr, e_geq, e_beq, e_bne, e_peq1, e_peq2, e_pne1, e_pne2, e_zeq1, e_zeq2, e_zne1, e_zne2, e_feq1, e_fne1, e_feq2, e_fne2, e_seq, e_sne, e_ta1, e_ta2, Nat.zero_add, Nat.add_zero, Bool.not_true, Bool.not_false]
      refine ld1_r r4 rfl ?_
      refine bdq_r (l := ({ rp0 with op := q.op, st := (rget σ.rs q.id).st } : Rp).cells nilS nilS nilS) rfl ?_
      refine stn_r (cs := ({ rp0 with op := q.op, st := (rget σ.rs q.id).st } : Rp).cells nilS nilS nilS) p4 rfl (show 0 + 34 ≤ 34 by decide) (Rp.sc rfl rfl rfl) fun w5 r5 hk5 hz5 => ?_
      replace r5 : Row w5 w1.heap.size 46 (({ rp0 with op := q.op, st := (rget σ.rs q.id).st } : Rp).cells nilS nilS nilS) := r5
      refine ldn_r r5 (show 0 + 34 ≤ 34 by decide) ?_
      exact hK w5 ((k3.trans hk4).then hk5 fun k hk (q : k = _) => by omega)
    obtain ⟨i, hi, hlt⟩ := has_at hh
    refine ⟨?_, ?_⟩
    · refine get_ok (.inr hid) h3.tb hb (fun q => absurd hh q) fun i hi he w4 lv4 b4 hk4 hb4 s4 => ?_
      simp only [ex2_0, ex2_1, and_self]
      refine nw_r fun w5 r5 hk5 hz5 => ⟨(hk4.trans hk5).below', ?_⟩
      refine stn_r (cs := rC (σ.rs[i], lv4)) r5 rfl (show 0 + 7 ≤ 7 by decide) (rC_sc (sl_scal s4)) fun w6 r6 hk6 hz6 => ?_
      have s4' := hk4.size
      rw [← rget_at he hi] at r6
      exact fin w6 _ lv4 ((hk4.trans hk5).then hk6 fun k hk (q : k = _) => by omega) (by omega) r6
    · refine nw_r fun w4 r4 hk4 hz4 => ⟨hk4.below', ?_⟩
      refine get_ok (.inr hid) (h3.tb.kp' hk4) hb (fun q => absurd hh q) fun i hi he w5 lv4 b4 hk5 hb4 s4 => ?_
      simp only [ex2_0, ex2_1, and_self]
      refine stn_r (cs := rC (σ.rs[i], lv4)) (hk5.row' r4) rfl (show 0 + 7 ≤ 7 by decide) (rC_sc (sl_scal s4)) fun w6 r6 hk6 hz6 => ?_
      rw [← rget_at he hi] at r6
      exact fin w6 _ lv4 ((hk4.trans hk5).then hk6 fun k hk (q : k = _) => by omega) (by omega) r6
  · rw [if_neg hc0] at hK
    simp only [hc0, decide_false, Bool.not_false, e_fd, e_nck, e_pkt, e_pkf, e_gdtt, e_gdtf, e_gdft, e_gdff, e_ift, e_iff, e_not, e_ln, e_lnT, e_cp, e_cvi, e_ex20, e_ex21, e_ex30, e_ex31, e_ex32, e_add, e_sub, e_mul, e_quo, e_rem, e_and, e_or, e_xor, e_shl, e_shr, e_eql, e_neq, e_lss, e_leq, e_gtr, e_geq, e_beq, e_bne, e_peq1, e_peq2, e_pne1, e_pne2, e_zeq1, e_zeq2, e_zne1, e_zne2, e_feq1, e_fne1, e_feq2, e_fne2, e_seq, e_sne, e_ta1, e_ta2, Nat.zero_add, Nat.add_zero, Bool.not_true, Bool.not_false]
    refine refusal_ok fun w3 hk3 => ?_
    refine stn_r (cs := (rf code).cells nilS nilS nilS) (hk3.row' r2) rfl (show 0 + 34 ≤ 34 by decide) (Rp.sc rfl rfl rfl) fun w5 r5 hk5 hz5 => ?_
    replace r5 : Row w5 w1.heap.size 46 ((rf code).cells nilS nilS nilS) := r5
    refine ldn_r r5 (show 0 + 34 ≤ 34 by decide) ?_
    exact hK w5 ((k2.trans hk3).then hk5 fun k hk (q : k = _) => by omega)
end
end Go.Proofs.Qxb6500896aGreatDoor
