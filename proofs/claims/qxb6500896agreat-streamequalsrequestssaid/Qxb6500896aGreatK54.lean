import Derived.Test.Qxb6500896aGreatK53
import Derived.Test.Qxb6500896aGreatN3
namespace Go.Proofs.Qxb6500896aGreat
open Go.Sh Go.RowKit
set_option linter.unusedVariables false
set_option linter.unusedSimpArgs false

/-- an engine at work: since world w0 its parts alone were written, and variables V that are not its parts -/
structure Es (M0 : Nat → Prop) (w0 : World) (e : Nat) (m0 : Me) (C : Cfg) (V : Nat → Prop) (w : World) (M : Nat → Prop) (m : Me) (σ : Sg) (J : Jr) : Prop where
  x : Ext M0 M w0 w
  k : Kp (OwnE e m0) w0 w
  j : m.j = m0.j
  o : ∀ b, OwnE e m b → OwnE e m0 b ∨ w0.heap.size ≤ b
  en : En M w e m C σ J
  v : ∀ c, V c → M c ∧ ¬ OwnE e m c ∧ w0.heap.size ≤ c
section
variable {F G M0 M M' S V : Nat → Prop} {w w' w0 w1 : World} {v rv lv : Value} {l : List Value} {n wb e t b c : Nat} {rob rob' : Option Nat} {lobs lobs' : List (Option Nat)} {C : Cfg} {ls ls' : List (List Int)} {rs rs' : List Rec} {K : Value → World → Prop} {m0 m m' : Me} {σ σ' : Sg} {J J' : Jr} {q : Rq} {p : Rp} {code : Int}
theorem Es.start (h : En M w e m C σ J) : Es M w e m C Emp w M m σ J := ⟨Ext.same h.lt (Kp.refl Emp w), Kp.refl _ _, rfl, fun b q => .inl q, h, fun c q => q.elim⟩
theorem Es.emp (s : Es M0 w0 e m0 C V w M m σ J) (hk : Kp Emp w w') : Es M0 w0 e m0 C V w' M m σ J :=
  ⟨s.x.trans (Ext.same s.en.lt hk), s.k.trans hk.none, s.j, s.o, s.en.kp' hk, s.v⟩
theorem Es.new (s : Es M0 w0 e m0 C V w M m σ J) (hk : Kp Emp w w') (h1 : w.heap.size ≤ c) (h2 : c < w'.heap.size) : Es M0 w0 e m0 C (fun b => V b ∨ b = c) w' (fun b => M b ∨ b = c) m σ J := by
  have hx := Ext.add s.en.lt hk h1 h2
  refine ⟨s.x.trans hx, s.k.trans hk.none, s.j, s.o, s.en.ext hx hk (fun _ q => q.elim) (fun _ _ q => q), fun b q => ?_⟩
  rcases q with q | q
  · exact ⟨.inl (s.v b q).1, (s.v b q).2⟩
  · subst q
    exact ⟨.inr rfl, fun q => by have := s.en.lt _ (s.en.own q); omega, by have := s.k.size; omega⟩
theorem Es.wr (s : Es M0 w0 e m0 C V w M m σ J) (hk : Kp S w w') (hS : ∀ b, S b → V b) : Es M0 w0 e m0 C V w' M m σ J :=
  ⟨s.x.trans (Ext.same s.en.lt hk), s.k.then hk fun b hb q => by have := (s.v b (hS b q)).2.2; omega, s.j, s.o, s.en.ext (Ext.same s.en.lt hk) hk (fun b q _ => (s.v b (hS b q)).1) fun b q q2 => (s.v b (hS b q2)).2.1 q, s.v⟩
/-- the engine's own parts are turned -/
theorem Es.own (s : Es M0 w0 e m0 C V w M m σ J) (hx : Ext M M' w w') (hk : Kp S w w') (hS : ∀ b, S b → OwnE e m b) (hj : m'.j = m.j) (ho : ∀ b, OwnE e m' b → OwnE e m b ∨ w.heap.size ≤ b) (h : En M' w' e m' C σ' J') : Es M0 w0 e m0 C V w' M' m' σ' J' := by
  refine ⟨s.x.trans hx, s.k.then hk fun b hb q => ?_, by rw [hj, s.j], fun b q => ?_, h, fun c q => ?_⟩
  · rcases s.o b (hS b q) with q | q
    · exact q
    · omega
  · rcases ho b q with q | q
    · exact s.o b q
    · exact .inr (by have := s.k.size; omega)
  · obtain ⟨a, b, d⟩ := s.v c q
    refine ⟨hx.sub c a, fun q2 => ?_, d⟩
    rcases ho c q2 with q2 | q2
    · exact b q2
    · have := s.en.lt c a; omega
theorem Es.tbl (s : Es M0 w0 e m0 C V w M m σ J) (hx : Ext M M' w w') (hk : Kp (OwnT m.t m.rob) w w') (ho : ∀ b, OwnT m.t rob' b → OwnT m.t m.rob b ∨ w.heap.size ≤ b) (tb : Tb M' w' m.t rob' C rs') : Es M0 w0 e m0 C V w' M' { m with rob := rob' } { σ with rs := rs' } J := by
  refine s.own hx hk (fun b q => .inr (.inl q)) rfl (fun b q => ?_) (s.en.tbl hx hk tb)
  rcases q with q | q | q | q | q
  · exact .inl (.inl q)
  · exact (ho b q).imp (fun q => .inr (.inl q)) id
  · exact .inl (.inr (.inr (.inl q)))
  · exact .inl (.inr (.inr (.inr (.inl q))))
  · exact .inl (.inr (.inr (.inr (.inr q))))
theorem Es.tl (s : Es M0 w0 e m0 C V w M m σ J) (hx : Ext M M' w w') (hk : Kp (fun b => OwnT m.t m.rob b ∨ OwnL m.n m.wb m.lobs b) w w') (ho : ∀ b, OwnT m.t rob' b ∨ OwnL m.n m.wb lobs' b → OwnT m.t m.rob b ∨ OwnL m.n m.wb m.lobs b ∨ w.heap.size ≤ b)
    (tb : Tb M' w' m.t rob' C rs') (li : Li M' w' m.n m.wb lobs' C ls') : Es M0 w0 e m0 C V w' M' { m with rob := rob', lobs := lobs' } { σ with rs := rs', ls := ls' } J := by
  refine s.own hx hk (fun b q => q.elim (fun q => .inr (.inl q)) fun q => .inr (.inr (.inl q))) rfl (fun b q => ?_) (s.en.parts hx hk (fun b q => q) tb li)
  have key : OwnT m.t m.rob b ∨ OwnL m.n m.wb m.lobs b ∨ w.heap.size ≤ b → OwnE e m b ∨ w.heap.size ≤ b := fun q => by
    rcases q with q | q | q
    · exact .inl (.inr (.inl q))
    · exact .inl (.inr (.inr (.inl q)))
    · exact .inr q
  rcases q with q | q | q | q | q
  · exact .inl (.inl q)
  · exact key (ho b (.inl q))
  · exact key (ho b (.inr q))
  · exact .inl (.inr (.inr (.inr (.inl q))))
  · exact .inl (.inr (.inr (.inr (.inr q))))
/-- a store into the engine's own block -/
theorem Es.st {o : Nat} {x : Value} {kk : World → Prop} (σ' : Sg) (s : Es M0 w0 e m0 C V w M m σ J) (ho : o < 52) (hx : scal x = true) (hcells : ∀ va vt env, (C.cells va vt ++ σ.cells m env).set o x = C.cells va vt ++ σ'.cells m env) (hrs : σ'.rs = σ.rs) (hls : σ'.ls = σ.ls ∧ σ'.ent = σ.ent) (hrf : σ'.rf.length = 23)
    (hK : ∀ w', Es M0 w0 e m0 C V w' M m σ' J → Kp (fun b => b = e) w w' → w'.heap.size = w.heap.size → kk w') : st1 (P e o) x kk w :=
  s.en.st σ' ho hx hcells hrs hls hrf fun w' h hk hz => hK w' (s.own (Ext.same s.en.lt hk) hk (fun b q => .inl q) rfl (fun b q => .inl q) h) hk hz
theorem Es.nV (s : Es M0 w0 e m0 C V w M m σ J) (hc : V c) {b : Nat} (hb : OwnE e m b) : c ≠ b := fun q => (s.v c hc).2.1 (q ▸ hb)
theorem Es.nT (s : Es M0 w0 e m0 C V w M m σ J) (hc : V c) : ¬ OwnT m.t m.rob c := fun q => (s.v c hc).2.1 (.inr (.inl q))
theorem Es.nTL (s : Es M0 w0 e m0 C V w M m σ J) (hc : V c) : ¬ (OwnT m.t m.rob c ∨ OwnL m.n m.wb m.lobs c) := fun q => (s.v c hc).2.1 (q.elim (fun q => .inr (.inl q)) fun q => .inr (.inr (.inl q)))
theorem Es.done {X : World → Me → Prop} (s : Es M0 w0 e m0 C V w M m σ J) (hX : EnK M0 w0 e m0 C σ J X) : X w m := hX w M m s.x s.k s.j s.o s.en
theorem Es.row (s : Es M0 w0 e m0 C V w M m σ J) : ∃ va vt env, Row w e 137 (C.cells va vt ++ σ.cells m env) := by
  obtain ⟨va, vt, env, r, _⟩ := s.en.ex
  exact ⟨va, vt, env, r⟩
/-- the answer to a hold -/
def hoR (C : Cfg) (q : Rq) (σ : Sg) : Rp := if (tHold C σ.now q.cl q.sz q.legs σ.rs).2 = 0 then { rp0 with op := q.op, id := (tHoldR C σ.now q.cl q.sz q.legs σ.rs).id, ex := (tHoldR C σ.now q.cl q.sz q.legs σ.rs).ex } else rf (tHold C σ.now q.cl q.sz q.legs σ.rs).2
theorem holdE_ok (cv : CV C) (g : Gd C σ.seq σ.now σ.rs σ.ls) (h : En M w e m C σ J) (hl : Ar lC 2 F w lv q.legs) (hF : ∀ b, F b → b < w.heap.size) (hlo : LO2 C σ.now q.legs) (hc : 0 ≤ q.cl ∧ q.cl < 3) (hs : 1 ≤ q.sz ∧ q.sz ≤ C.mp)
    (hK : EnK M w e m C { σ with rs := (tHold C σ.now q.cl q.sz q.legs σ.rs).1 } J fun w' m' => K (.agg ((hoR C q σ).cells nilS nilS nilS).toArray) w') : cl Tryz.prog 206 #[P e 0, .agg (q.cells lv).toArray] K w := by
  have hn := g.now
  have mc := cv.mc.2
  have mp := cv.mp.2
  have hlsc := hl.scal
  apply c206R
  unfold s206R_p3
  refine nw_r fun w1 r1 hk1 hz1 => ?_
  replace r1 : Row w1 w.heap.size 52 (q.cells lv) := r1
  refine nw_r fun w2 r2 hk2 hz2 => ?_
  replace r2 : Row w2 w1.heap.size 94 (rp0.cells nilS nilS nilS) := r2
  have r12 := hk2.row' r1
  have s2 := (((Es.start h).new hk1 (Nat.le_refl _) (by omega)).new hk2 (Nat.le_refl _) (by omega))
  unfold s206R_p2 s206R_p2_d
  have kd : Kp Emp w2 (drw w2) := kp_drw
  have szd : (drw w2).heap.size = w2.heap.size := rfl
  generalize drw w2 = w3 at kd szd ⊢
  have s3 := s2.emp kd
  have k3 := (hk1.trans hk2).trans kd
  obtain ⟨va, vt, env, re⟩ := s3.row
  have q3 := kd.row' r12
  have p3 := kd.row' r2
  refine ⟨fun w' => Row w' e 137 (C.cells va vt ++ σ.cells m env) ∧ Row w' w.heap.size 52 (q.cells lv), ⟨re, q3⟩, ?_⟩
  try simp only [e_fd, e_nck, e_pkt, e_pkf, e_gdtt, e_gdtf, e_gdft, e_gdff, e_ift, e_iff, e_not, e_ln, e_lnT, e_cp, e_cvi, e_ex20, e_ex21, e_ex30, e_ex31, e_ex32, e_add, e_sub, e_mul, e_quo, e_rem, e_and, e_or, e_xor, e_shl, e_shr, e_eql, e_neq, e_lss, e_leq, e_gtr, e_geq, e_beq, e_bne, e_peq1, e_peq2, e_pne1, e_pne2, e_zeq1, e_zeq2, e_zne1, e_zne2, e_feq1, e_fne1, e_feq2, e_fne2, e_seq, e_sne, e_ta1, e_ta2, Nat.zero_add, Nat.add_zero, Bool.not_true, Bool.not_false]
  refine ⟨_, fun w' hJ => ld1_r hJ.1 rfl ⟨rfl, rfl⟩, ?_⟩
  try simp only [e_fd, e_nck, e_pkt, e_pkf, e_gdtt, e_gdtf, e_gdft, e_gdff, e_ift, e_iff, e_not, e_ln, e_lnT, e_cp, e_cvi, e_ex20, e_ex21, e_ex30, e_ex31, e_ex32, e_add, e_sub, e_mul, e_quo, e_rem, e_and, e_or, e_xor, e_shl, e_shr, e_eql, e_neq, e_lss, e_leq, e_gtr, e_geq, e_beq, e_bne, e_peq1, e_peq2, e_pne1, e_pne2, e_zeq1, e_zeq2, e_zne1, e_zne2, e_feq1, e_fne1, e_feq2, e_fne2, e_seq, e_sne, e_ta1, e_ta2, Nat.zero_add, Nat.add_zero, Bool.not_true, Bool.not_false]
  refine ⟨_, fun w' hJ => ld1_r hJ.1 rfl ⟨rfl, rfl⟩, ?_⟩
  try simp only [e_fd, e_nck, e_pkt, e_pkf, e_gdtt, e_gdtf, e_gdft, e_gdff, e_ift, e_iff, e_not, e_ln, e_lnT, e_cp, e_cvi, e_ex20, e_ex21, e_ex30, e_ex31, e_ex32, e_add, e_sub, e_mul, e_quo, e_rem, e_and, e_or, e_xor, e_shl, e_shr, e_eql, e_neq, e_lss, e_leq, e_gtr, e_geq, e_beq, e_bne, e_peq1, e_peq2, e_pne1, e_pne2, e_zeq1, e_zeq2, e_zne1, e_zne2, e_feq1, e_fne1, e_feq2, e_fne2, e_seq, e_sne, e_ta1, e_ta2, Nat.zero_add, Nat.add_zero, Bool.not_true, Bool.not_false]
  refine ⟨_, fun w' hJ => ld1_r hJ.2 rfl ⟨rfl, rfl⟩, ?_⟩
  try simp only [e_fd, e_nck, e_pkt, e_pkf, e_gdtt, e_gdtf, e_gdft, e_gdff, e_ift, e_iff, e_not, e_ln, e_lnT, e_cp, e_cvi, e_ex20, e_ex21, e_ex30, e_ex31, e_ex32, e_add, e_sub, e_mul, e_quo, e_rem, e_and, e_or, e_xor, e_shl, e_shr, e_eql, e_neq, e_lss, e_leq, e_gtr, e_geq, e_beq, e_bne, e_peq1, e_peq2, e_pne1, e_pne2, e_zeq1, e_zeq2, e_zne1, e_zne2, e_feq1, e_fne1, e_feq2, e_fne2, e_seq, e_sne, e_ta1, e_ta2, Nat.zero_add, Nat.add_zero, Bool.not_true, Bool.not_false]
  refine ⟨_, fun w' hJ => ld1_r hJ.2 rfl ⟨rfl, rfl⟩, ?_⟩
  try simp only [e_fd, e_nck, e_pkt, e_pkf, e_gdtt, e_gdtf, e_gdft, e_gdff, e_ift, e_iff, e_not, e_ln, e_lnT, e_cp, e_cvi, e_ex20, e_ex21, e_ex30, e_ex31, e_ex32, e_add, e_sub, e_mul, e_quo, e_rem, e_and, e_or, e_xor, e_shl, e_shr, e_eql, e_neq, e_lss, e_leq, e_gtr, e_geq, e_beq, e_bne, e_peq1, e_peq2, e_pne1, e_pne2, e_zeq1, e_zeq2, e_zne1, e_zne2, e_feq1, e_fne1, e_feq2, e_fne2, e_seq, e_sne, e_ta1, e_ta2, Nat.zero_add, Nat.add_zero, Bool.not_true, Bool.not_false]
  refine ⟨_, fun w' hJ => ld1_r (v := lv) hJ.2 rfl ⟨rfl, rfl⟩, ?_⟩
  unfold hoR at hK
  -- what follows once the record lies in its variable
  have fin : ∀ w4 M4 rob4 V b lv4, Es M w e m C V w4 M4 { m with rob := rob4 } { σ with rs := (tHold C σ.now q.cl q.sz q.legs σ.rs).1 } J → V w.heap.size → V w1.heap.size → Row w4 w.heap.size 52 (q.cells lv) → Row w4 w1.heap.size 94 (rp0.cells nilS nilS nilS) → Row w4 b 85 (rC (tHoldR C σ.now q.cl q.sz q.legs σ.rs, lv4)) → s206R_p1 K (P w.heap.size 0) (P w1.heap.size 0) (P b 0) (I (tHold C σ.now q.cl q.sz q.legs σ.rs).2) w4 := by
    intro w4 M4 rob4 V b lv4 s4 v1 v2 q4 p4 r4
    unfold s206R_p1
    simp only [nei, e_fd, e_nck, e_pkt, e_pkf, e_gdtt, e_gdtf, e_gdft, e_gdff, e_ift, e_iff, e_not, e_ln, e_lnT, e_cp, e_cvi, e_ex20, e_ex21, e_ex30, e_ex31, e_ex32, e_add, e_sub, e_mul, e_quo, e_rem, e_and, e_or, e_xor, e_shl, e_shr, e_eql, e_neq, e_lss, e_leq, e_gtr, e_geq, e_beq, e_bne, e_peq1, e_peq2, e_pne1, e_pne2, e_zeq1, e_zeq2, e_zne1, e_zne2, e_feq1, e_fne1, e_feq2, e_fne2, e_seq, e_sne, e_ta1, e_ta2, Nat.zero_add, Nat.add_zero, Bool.not_true, Bool.not_false]
    by_cases hc0 : (tHold C σ.now q.cl q.sz q.legs σ.rs).2 = 0
    · rw [if_pos hc0] at hK
      simp only [hc0, decide_true, Bool.not_true, e_fd, e_nck, e_pkt, e_pkf, e_gdtt, e_gdtf, e_gdft, e_gdff, e_ift, e_iff, e_not, e_ln, e_lnT, e_cp, e_cvi, e_ex20, e_ex21, e_ex30, e_ex31, e_ex32, e_add, e_sub, e_mul, e_quo, e_rem, e_and, e_or, e_xor, e_shl, e_shr, e_eql, e_neq, e_lss, e_leq, e_gtr, e_geq, e_beq, e_bne, e_peq1, e_peq2, e_pne1, e_pne2, e_zeq1, e_zeq2, e_zne1, e_zne2, e_feq1, e_fne1, e_feq2, e_fne2, e_seq, e_sne, e_ta1, e_ta2, Nat.zero_add, Nat.add_zero, Bool.not_true, Bool.not_false]
      refine ld1_r q4 rfl ?_
      try simp only [e_fd, e_nck, e_pkt, e_pkf, e_gdtt, e_gdtf, e_gdft, e_gdff, e_ift, e_iff, e_not, e_ln, e_lnT, e_cp, e_cvi, e_ex20, e_ex21, e_ex30, e_ex31, e_ex32, e_add, e_sub, e_mul, e_quo, e_rem, e_and, e_or, e_xor, e_shl, e_shr, e_eql, e_neq, e_lss, e_leq, e_gtr, e_geq, e_beq, e_bne, e_peq1, e_peq2, e_pne1, e_pne2, e_zeq1, e_zeq2, e_zne1, e_zne2, e_feq1, e_fne1, e_feq2, e_fne2, e_seq, e_sne, e_ta1, e_ta2, Nat.zero_add, Nat.add_zero, Bool.not_true, Bool.not_false]
      refine ld1_r r4 rfl ?_
      try simp only [e_fd, e_nck, e_pkt, e_pkf, e_gdtt, e_gdtf, e_gdft, e_gdff, e_ift, e_iff, e_not, e_ln, e_lnT, e_cp, e_cvi, e_ex20, e_ex21, e_ex30, e_ex31, e_ex32, e_add, e_sub, e_mul, e_quo, e_rem, e_and, e_or, e_xor, e_shl, e_shr, e_eql, e_neq, e_lss, e_leq, e_gtr, e_geq, e_beq, e_bne, e_peq1, e_peq2, e_pne1, e_pne2, e_zeq1, e_zeq2, e_zne1, e_zne2, e_feq1, e_fne1, e_feq2, e_fne2, e_seq, e_sne, e_ta1, e_ta2, Nat.zero_add, Nat.add_zero, Bool.not_true, Bool.not_false]
      refine ld1_r r4 rfl ?_
      refine bdq_r (l := ({ rp0 with op := q.op, id := (tHoldR C σ.now q.cl q.sz q.legs σ.rs).id, ex := (tHoldR C σ.now q.cl q.sz q.legs σ.rs).ex } : Rp).cells nilS nilS nilS) rfl ?_
      refine stn_r (cs := ({ rp0 with op := q.op, id := (tHoldR C σ.now q.cl q.sz q.legs σ.rs).id, ex := (tHoldR C σ.now q.cl q.sz q.legs σ.rs).ex } : Rp).cells nilS nilS nilS) p4 rfl (show 0 + 34 ≤ 34 by decide) (Rp.sc rfl rfl rfl) fun w5 r5 hk5 hz5 => ?_
      replace r5 : Row w5 w1.heap.size 94 (({ rp0 with op := q.op, id := (tHoldR C σ.now q.cl q.sz q.legs σ.rs).id, ex := (tHoldR C σ.now q.cl q.sz q.legs σ.rs).ex } : Rp).cells nilS nilS nilS) := r5
      refine ldn_r r5 (show 0 + 34 ≤ 34 by decide) ?_
      exact (s4.wr hk5 fun b (q : b = _) => q ▸ v2).done hK
    · rw [if_neg hc0] at hK
      simp only [hc0, decide_false, Bool.not_false, e_fd, e_nck, e_pkt, e_pkf, e_gdtt, e_gdtf, e_gdft, e_gdff, e_ift, e_iff, e_not, e_ln, e_lnT, e_cp, e_cvi, e_ex20, e_ex21, e_ex30, e_ex31, e_ex32, e_add, e_sub, e_mul, e_quo, e_rem, e_and, e_or, e_xor, e_shl, e_shr, e_eql, e_neq, e_lss, e_leq, e_gtr, e_geq, e_beq, e_bne, e_peq1, e_peq2, e_pne1, e_pne2, e_zeq1, e_zeq2, e_zne1, e_zne2, e_feq1, e_fne1, e_feq2, e_fne2, e_seq, e_sne, e_ta1, e_ta2, Nat.zero_add, Nat.add_zero, Bool.not_true, Bool.not_false]
      refine refusal_ok fun w5 hk5 => ?_
      refine stn_r (cs := (rf (tHold C σ.now q.cl q.sz q.legs σ.rs).2).cells nilS nilS nilS) (hk5.row' p4) rfl (show 0 + 34 ≤ 34 by decide) (Rp.sc rfl rfl rfl) fun w6 r6 hk6 hz6 => ?_
      replace r6 : Row w6 w1.heap.size 94 ((rf (tHold C σ.now q.cl q.sz q.legs σ.rs).2).cells nilS nilS nilS) := r6
      refine ldn_r r6 (show 0 + 34 ≤ 34 by decide) ?_
      exact ((s4.emp hk5).wr hk6 fun b (q : b = _) => q ▸ v2).done hK
  have e_no : ∀ {w' : World} {M' : Nat → Prop} {V : Nat → Prop} (s : Es M w e m C V w' M' m σ J), ¬ OwnT m.t m.rob e := fun s q => s.en.neE (.inl q) rfl
  refine ⟨?_, ?_⟩
  · refine hold_ok cv (g.ti cv) s3.en.tb (hl.kp' k3) (hlo.lo cv hn) hc ⟨by omega, by omega⟩ ⟨by omega, by omega⟩ fun w4 M4 rob4 lv4 hx4 hk4 ho4 tb4 sc4 => ?_
    have s4 := s3.tbl hx4 hk4 ho4 tb4
    have q4 := hk4.row q3 (s3.nT (.inl (.inr rfl)))
    have p4 := hk4.row p3 (s3.nT (.inr rfl))
    have re4 := hk4.row re (e_no s3)
    simp only [ex2_0, ex2_1, and_self]
    refine nw_r fun w5 r5 hk5 hz5 => ⟨⟨hk5.row' re4, hk5.row' q4⟩, ?_⟩
    have s5 := s4.new hk5 (Nat.le_refl _) (by omega)
    refine stn_r (cs := rC (tHoldR C σ.now q.cl q.sz q.legs σ.rs, lv4)) r5 rfl (show 0 + 7 ≤ 7 by decide) (rC_sc sc4) fun w6 r6 hk6 hz6 => ?_
    have lq := q4.lt
    have lp := p4.lt
    exact fin w6 _ rob4 _ _ lv4 (s5.wr hk6 fun b (q : b = _) => .inr q) (.inl (.inl (.inr rfl))) (.inl (.inr rfl)) (hk6.row (hk5.row' q4) (show ¬ w.heap.size = _ by omega)) (hk6.row (hk5.row' p4) (show ¬ w1.heap.size = _ by omega)) r6
  · refine nw_r fun w4 r4 hk4 hz4 => ⟨⟨hk4.row' re, hk4.row' q3⟩, ?_⟩
    have s4 := s3.new hk4 (Nat.le_refl _) (by omega)
    refine hold_ok cv (g.ti cv) s4.en.tb (hl.kp' (k3.trans hk4)) (hlo.lo cv hn) hc ⟨by omega, by omega⟩ ⟨by omega, by omega⟩ fun w5 M5 rob4 lv4 hx5 hk5 ho5 tb5 sc4 => ?_
    have s5 := s4.tbl hx5 hk5 ho5 tb5
    have q5 := hk5.row (hk4.row' q3) (s4.nT (.inl (.inl (.inr rfl))))
    have p5 := hk5.row (hk4.row' p3) (s4.nT (.inl (.inr rfl)))
    have r5 := hk5.row r4 (s4.nT (.inr rfl))
    simp only [ex2_0, ex2_1, and_self]
    refine stn_r (cs := rC (tHoldR C σ.now q.cl q.sz q.legs σ.rs, lv4)) r5 rfl (show 0 + 7 ≤ 7 by decide) (rC_sc sc4) fun w6 r6 hk6 hz6 => ?_
    exact fin w6 _ rob4 _ _ lv4 (s5.wr hk6 fun b (q : b = _) => .inr q) (.inl (.inl (.inr rfl))) (.inl (.inr rfl)) (hk6.row q5 (show ¬ w.heap.size = _ by omega)) (hk6.row p5 (show ¬ w1.heap.size = _ by omega)) r6
end
end Go.Proofs.Qxb6500896aGreat
