import Derived.Test.Qxb6500896aGreatDoorK87
import Derived.Test.Qxb6500896aGreatDoorN16
import Derived.Test.Qxb6500896aGreatDoorT11
namespace Go.Proofs.Qxb6500896aGreatDoor
open Go.Sh Go.RowKit
set_option linter.unusedVariables false
set_option linter.unusedSimpArgs false

section
variable {K : Value → World → Prop} {X : (Value → World → Prop) → World → Prop} {w : World} {a b : Value} {n : Nat}
theorem gt (h : X K w) : gd (.bool true) true X K w := ⟨h⟩
theorem gf (h : K undef w) : gd (.bool false) true X K w := ⟨h⟩
theorem pkt (h : K a w) : pk (.bool true) a b K w := h
theorem pkf (h : K b w) : pk (.bool false) a b K w := h
theorem nk (h : K (P n 0) w) : nck (P n 0) K w := h
end
theorem obs_len (now : Int) : (obs now).length ≤ 130 := by
  have h1 := obsI_len 28
  have h2 := obsA_len now 4
  unfold obs
  rw [List.length_append, List.length_append, h1]
  show 2 + 3 * 28 + _ ≤ 130
  omega
theorem gff {K : Value → World → Prop} {X : (Value → World → Prop) → World → Prop} {w : World} (h : X K w) : gd (.bool false) false X K w := ⟨h⟩
theorem gft {K : Value → World → Prop} {X : (Value → World → Prop) → World → Prop} {w : World} (h : K undef w) : gd (.bool true) false X K w := ⟨h⟩
set_option maxRecDepth 100000 in
theorem fiStat4 : fiK Tryz.prog 81 4 = some 4 := by kernel_rfl
set_option maxRecDepth 100000 in
theorem fiStat5 : fiK Tryz.prog 81 5 = some 5 := by kernel_rfl
set_option maxRecDepth 100000 in
theorem fiCfg13 : fiK Tryz.prog 75 13 = some 13 := by kernel_rfl
section
variable {W w w' w1 : World} {V F M : Nat → Prop} {r e j n : Nat} {σ : Sg} {J : Jr} {K : Value → World → Prop} {v : Value} {lob : Option Nat} {xs : List Op} {m : Me} {C : Cfg} {b1 : Nat}
/-- the counters' cells -/
def Sg.sts (σ : Sg) : List Value := [I σ.sr, I σ.sq, I σ.sg, I σ.ss, I σ.sp, .bool σ.res] ++ σ.rf.map I
theorem stats_ok (h : En M w e m C σ J) (hK : ∀ w', Kp Emp w w' → K (.agg σ.sts.toArray) w') : cl Tryz.prog 25 #[P e 0] K w := by
  have hrf := h.rf
  obtain ⟨va, vt, env, r, _⟩ := h.ex
  apply c25
  unfold s25_p1
  refine nw_r fun w1 r1 hk1 hz1 => ?_
  try simp only [e_fd, e_nck, e_pkt, e_pkf, e_gdtt, e_gdtf, e_gdft, e_gdff, e_ift, e_iff, e_not, e_ln, e_lnT, e_cp, e_cvi, e_ex20, e_ex21, e_ex30, e_ex31, e_ex32, e_add, e_sub, e_mul, e_quo, e_rem, e_and, e_or, e_xor, e_shl, e_shr, e_eql, e_neq, e_lss, e_leq, e_gtr, e_geq, e_beq, e_bne, e_peq1, e_peq2, e_pne1, e_pne2, e_zeq1, e_zeq2, e_zne1, e_zne2, e_feq1, e_fne1, e_feq2, e_fne2, e_seq, e_sne, e_ta1, e_ta2, Nat.zero_add, Nat.add_zero, Bool.not_true, Bool.not_false]
  have e1 : ((C.cells va vt ++ σ.cells m env).drop 22).take 29 = σ.sts := by
    have e0 : (C.cells va vt ++ σ.cells m env).drop 22 = σ.sts ++ [env] := by
      unfold Sg.sts Sg.cells
      rw [← List.append_assoc]
      rfl
    rw [e0, List.take_append_of_le_length (by unfold Sg.sts; simp; omega), List.take_of_length_le (by unfold Sg.sts; simp; omega)]
  have hl : σ.sts.length = 29 := by unfold Sg.sts; simp; omega
  refine ldn_r (hk1.row' r) (by rw [en_len hrf]; decide) ?_
  rw [e1]
  refine stn_r (cs := σ.sts) r1 hl (show 0 + 29 ≤ 29 by decide) (by unfold Sg.sts; rw [List.all_append]; simp [scal, List.all_map]) fun w2 r2 hk2 hz2 => ?_
  rw [List.take_zero, List.nil_append, Nat.zero_add, List.drop_of_length_le (by decide), List.append_nil] at r2
  refine ldn_r r2 (by omega) ?_
  rw [List.drop_zero, List.take_of_length_le (by omega)]
  exact hK w2 (hk1.then hk2 fun k hk (q : k = _) => by omega)
theorem logged_ok (h : En M w e m C σ J) (hK : K (I σ.seq) w) : cl Tryz.prog 24 #[P e 0] K w := by
  obtain ⟨va, vt, env, r, _⟩ := h.ex
  apply c24
  unfold s24_p1
  try simp only [e_fd, e_nck, e_pkt, e_pkf, e_gdtt, e_gdtf, e_gdft, e_gdff, e_ift, e_iff, e_not, e_ln, e_lnT, e_cp, e_cvi, e_ex20, e_ex21, e_ex30, e_ex31, e_ex32, e_add, e_sub, e_mul, e_quo, e_rem, e_and, e_or, e_xor, e_shl, e_shr, e_eql, e_neq, e_lss, e_leq, e_gtr, e_geq, e_beq, e_bne, e_peq1, e_peq2, e_pne1, e_pne2, e_zeq1, e_zeq2, e_zne1, e_zne2, e_feq1, e_fne1, e_feq2, e_fne2, e_seq, e_sne, e_ta1, e_ta2, Nat.zero_add, Nat.add_zero, Bool.not_true, Bool.not_false]
  exact ld1_r r rfl hK
theorem stay_sl {T : TypeId} {xs : List Int} (sl : Sl bC 1 w T (some b1) v xs) (hV : V b1) (st : Stay V w w') : Sl bC 1 w' T (some b1) v xs := by
  obtain ⟨cap, junk, h1, h2, h3, h4⟩ := sl
  exact ⟨cap, junk, h1, h2, h3, st.2 b1 hV _ _ h4⟩
end
/-! ### a rig and an engine beside it -/
structure LzE (W : World) (V : Nat → Prop) (w : World) (r e1 : Nat) (σ1 : Sg) (J1 : Jr) (e2 : Nat) (σ2 : Sg) (J2 : Jr) : Prop where
  ex : ∃ M m1 m2, (En M w e1 m1 park σ1 J1 ∧ En M w e2 m2 park σ2 J2) ∧ Row w r 58 [P m1.j 0, P e1 0] ∧ (∀ b, M b → W.heap.size ≤ b) ∧ (∀ b, OwnE e1 m1 b → ¬ OwnE e2 m2 b) ∧
    (∀ c, V c → M c ∧ (¬ OwnE e1 m1 c ∧ ¬ OwnE e2 m2 c) ∧ c ≠ r)
  k : Kp Emp W w
  i1 : RgI park σ1 J1
  i2 : RgI park σ2 J2
  lo1 : σ1.loose = 0
  lo2 : σ2.loose = 0
  r0 : W.heap.size ≤ r
section
variable {W w w' w0 : World} {V V' S F : Nat → Prop} {r e1 e2 c : Nat} {σ1 σ2 : Sg} {J1 J2 : Jr} {K : Value → World → Prop} {v : Value} {bs : List Int} {M : Nat → Prop} {m : Me} {q : Rq} {l : List Value}
theorem LzE.fst (z : LzE W V w r e1 σ1 J1 e2 σ2 J2) : Lz W V w r e1 σ1 J1 := by
  obtain ⟨M, m1, m2, ⟨h1, h2⟩, q1, hM, hd, hV⟩ := z.ex
  exact ⟨⟨M, m1, h1, q1, hM, fun c hc => ⟨(hV c hc).1, (hV c hc).2.1.1, (hV c hc).2.2⟩⟩, z.k, z.i1, z.lo1, z.r0⟩
theorem LzE.gro (z : LzE W V w r e1 σ1 J1 e2 σ2 J2) (hk : Kp S w w') (hS : ∀ b, S b → V b) : LzE W (fun b => V b ∨ Nb w w' b) w' r e1 σ1 J1 e2 σ2 J2 := by
  obtain ⟨M, m1, m2, ⟨h1, h2⟩, q1, hM, hd, hV⟩ := z.ex
  have hWz := z.k.size
  have hx : Ext M (fun b => M b ∨ Nb w w' b) w w' := ⟨fun b q => .inl q, fun b q => q.imp id (·.1), hk.size, fun b q => by
    rcases q with q | q
    · have := h1.lt b q; have := hk.size; omega
    · exact q.2⟩
  refine ⟨⟨_, m1, m2, ⟨h1.ext hx hk (fun b q _ => (hV b (hS b q)).1) fun b q q2 => (hV b (hS b q2)).2.1.1 q, h2.ext hx hk (fun b q _ => (hV b (hS b q)).1) fun b q q2 => (hV b (hS b q2)).2.1.2 q⟩,
    hk.row q1 fun q => (hV r (hS r q)).2.2 rfl, fun b q => ?_, hd, fun c q => ?_⟩, z.k.then hk fun b hb q => by have := hM b (hV b (hS b q)).1; omega, z.i1, z.i2, z.lo1, z.lo2, z.r0⟩
  · rcases q with q | q
    · exact hM b q
    · have := q.1; omega
  · rcases q with q | q
    · exact ⟨.inl (hV c q).1, (hV c q).2⟩
    · have := q.1
      have a1 := q1.lt
      exact ⟨.inr q, ⟨fun q2 => by have := h1.lt _ (h1.own q2); omega, fun q2 => by have := h2.lt _ (h2.own q2); omega⟩, by omega⟩
theorem LzE.sub (z : LzE W V w r e1 σ1 J1 e2 σ2 J2) (h : ∀ c, V' c → V c) : LzE W V' w r e1 σ1 J1 e2 σ2 J2 := by
  obtain ⟨M, m1, m2, hh, hq, hM, hd, hV⟩ := z.ex
  exact ⟨⟨M, m1, m2, hh, hq, hM, hd, fun c hc => hV c (h c hc)⟩, z.k, z.i1, z.i2, z.lo1, z.lo2, z.r0⟩
theorem LzE.emp (z : LzE W V w r e1 σ1 J1 e2 σ2 J2) (hk : Kp Emp w w') : LzE W V w' r e1 σ1 J1 e2 σ2 J2 := by
  obtain ⟨M, m1, m2, ⟨h1, h2⟩, q1, hM, hd, hV⟩ := z.ex
  exact ⟨⟨M, m1, m2, ⟨h1.kp' hk, h2.kp' hk⟩, hk.row' q1, hM, hd, hV⟩, z.k.trans hk, z.i1, z.i2, z.lo1, z.lo2, z.r0⟩
theorem LzE.lt (z : LzE W V w r e1 σ1 J1 e2 σ2 J2) : ∀ c, V c → c < w.heap.size := fun c hc => by
  obtain ⟨M, m1, m2, hh, hq, hM, hd, hV⟩ := z.ex
  exact hh.1.lt c (hV c hc).1
theorem eb_of' (h : En M w e1 m park σ1 J1) (i : RgI park σ1 J1) (lo : σ1.loose = 0) (hq : σ1.seq ≤ 1000000000) : EB σ1 := by
  have hl := h.jn.ok.tot
  have hl2 := len_tot J1.log
  have ht := i.tl
  have hs := i.g.seq
  have hn := i.g.now
  exact ⟨by omega, by omega, by omega, by omega, by omega, by omega⟩
/-- a request is handled by the second -/
theorem LzE.handle (z : LzE W V w r e1 σ1 J1 e2 σ2 J2) (hq : σ2.seq ≤ 1000000000) (hx : Ar bC 1 F w v bs) (hF : ∀ b, F b → b < w.heap.size) (hB : By bs)
    (hK : ∀ w' v' b S, LzE W (fun c => V c ∨ c = b) w' r e1 σ1 J1 e2 (hndS park bs σ2 J2).1 (hndS park bs σ2 J2).2.1 → Sl bC 1 w' 5 (some b) v' (eR (hndS park bs σ2 J2).2.2) → w.heap.size ≤ b → Kp S w w' → (∀ c, V c → ¬ S c) → (∀ c, c < W.heap.size → ¬ S c) → K v' w') : cl Tryz.prog 29 #[P e2 0, v] K w := by
  obtain ⟨M, m1, m2, ⟨h1, h2⟩, q1, hM, hd, hV⟩ := z.ex
  have eb := eb_of' h2 z.i2 z.lo2 hq
  have hi := z.i2.hnd park_cv park_mb hB (by omega)
  refine hndE_ok park_cv (by decide) (fun _ => z.i2.g) eb h2 hx hF hB fun w1 M1 m2' v1 b1 hx1 hk1 hj1 ho1 h2' s1 fb1 mb1 => ?_
  have hWz := z.k.size
  have h1' := h1.ext hx1 hk1 (fun b q _ => h2.own q) fun b q q2 => hd b q q2
  refine hK w1 v1 b1 (OwnE e2 m2) ⟨⟨M1, m1, m2', ⟨h1', h2'⟩, hk1.row q1 (h2.nRig q1), fun b q => ?_, fun b q qq => ?_, fun c q => ?_⟩, z.k.then hk1 fun b hb q => ?_, z.i1, hi.1, z.lo1, hi.2.1, z.r0⟩ s1 fb1.1 hk1 (fun c q => (hV c q).2.1.2) fun c hc q => ?_
  · rcases hx1.new b q with q | q
    · exact hM b q
    · omega
  · rcases ho1 b qq with qq | qq
    · exact hd b q qq
    · have := h1.lt b (h1.own q); omega
  · have a1 := q1.lt
    rcases q with q | q
    · refine ⟨hx1.sub c (hV c q).1, ⟨(hV c q).2.1.1, fun q2 => ?_⟩, (hV c q).2.2⟩
      rcases ho1 c q2 with q2 | q2
      · exact (hV c q).2.1.2 q2
      · have := h1.lt c (hV c q).1; omega
    · subst q
      have := fb1.1
      exact ⟨mb1, ⟨fun q => by have := h1.lt _ (h1.own q); omega, fb1.2.2⟩, by omega⟩
  · have := hM b (h2.own q); omega
  · have := hM c (h2.own q); omega
set_option maxRecDepth 100000 in
theorem okHandle : okF Tryz.prog 29 = true := by kernel_rfl
/-- the bound method of an engine -/
abbrev handV (e : Nat) : Value := .func (.func 29) #[P e 0] #[]
/-- the second answers questions -/
theorem LzE.srv (h : RgI park σ2 J2) (hlo : σ2.loose = 0) (hs : σ2.seq ≤ 1000000000) : Srv W (handV e2) (ansE σ2 J2) (fun V w => ∃ σ', LzE W V w r e1 σ1 J1 e2 σ' J2 ∧ Core σ2 σ') where
  k := fun ⟨σ', z, c⟩ => z.k
  lt := fun ⟨σ', z, c⟩ => z.lt
  gro := fun ⟨σ', z, c⟩ hk hS => ⟨σ', z.gro hk hS, c⟩
  sub := fun ⟨σ', z, c⟩ hV => ⟨σ', z.sub hV, c⟩
  len := fun q => hnd_len h
  call := by
    intro V F w v q K ⟨σ', z, c⟩ hq ha hF hK
    have hseq := c.seq
    obtain ⟨x1, x2, x3⟩ := hq.hnd z.i2 z.lo2 (by omega)
    have ea := ansE_core hq h hlo (by omega) z.i2 z.lo2 (by omega) c
    refine ⟨okHandle, ?_⟩
    show cl Tryz.prog 29 #[P e2 0, v] K w
    refine z.handle (by omega) ha hF hq.by_ fun w1 v1 b1 S z1 sl1 hb1 hk1 hS hW => ?_
    rw [x2] at z1
    have sl2 : Sl bC 1 w1 5 (some b1) v1 (ansE σ2 J2 q) := by rw [← ea]; exact sl1
    exact hK w1 v1 b1 S ⟨_, z1, c.trans x3⟩ sl2 hb1 hk1 hS hW
/-- a second engine is opened on a copy of the journal -/
theorem second_ok {j : Nat} (h : En M w e1 m park σ1 J1) (hj : j = m.j) (hr : Row w r 58 [P m.j 0, P e1 0]) (hM : ∀ b, M b → W.heap.size ≤ b) (hV : ∀ c, V c → M c ∧ ¬ OwnE e1 m c ∧ c ≠ r) (k : Kp Emp W w) (i : RgI park σ1 J1) (lo : σ1.loose = 0) (r0 : W.heap.size ≤ r) (ht : J1.log.length < 6)
    {X : Value → World → Prop}
    (hK : ∀ w' e2 σ2, LzE W V w' r e1 σ1 J1 e2 σ2 J1 → Core σ1 σ2 → σ2.sp = ((J1.log.length : Nat) : Int) → σ2.res = J1.has → X (.tuple #[P e2 0, .nilIface]) w') :
    cl Tryz.prog 22 #[] (fun t28 w' => Below w.heap.size w w' ∧ cl Tryz.prog 23 #[P j 0] (fun t33 w => cl Tryz.prog 21 #[t28, t33] X w) w') w := by
  obtain ⟨σ2, o1, o2, o3, o4, o5, o6⟩ := opn_live i lo ht
  have kz := k.size
  refine park_ok fun w1 l1 hk1 hc1 => ⟨hk1.below', ?_⟩
  have h1 := h.kp' hk1
  have sz1 := hk1.size
  rw [hj]
  refine clone_ok h1.jn fun w2 M2 j2 lob2 hx2 hk2 ho2 jn2 => ?_
  have sz2 := hk2.size
  have hj2 := ho2 j2 (.inl rfl)
  refine open_ok (hc1.kp' hk2) park_v (by decide) jn2 (fun b q => by have := q.2; omega) i.jb (fun hno => by rw [o1] at hno; cases hno) (fun σ' hs w3 M3 e2 m2 hx3 hk3 hmj hown hel he3 => ?_)
  rw [o1] at hs he3
  have e0 := Option.some.inj hs
  subst e0
  have hx : Ext M M3 w1 w3 := hx2.trans hx3
  have k13 : Kp (OwnJ j2 lob2) w1 w3 := hk2.none.trans hk3
  have hown' : ∀ b, OwnE e2 m2 b → w1.heap.size ≤ b := fun b q => by
    rcases hown b q with q | q
    · exact ho2 b q
    · omega
  have h3 := h1.ext hx k13 (fun b q hb => by have := ho2 b q; omega) fun b q q2 => by have := h1.lt b (h1.own q); have := ho2 b q2; omega
  have hrl := hr.lt
  refine hK w3 e2 _ ⟨⟨M3, m, m2, ⟨h3, he3⟩, k13.row (hk1.row' hr) (fun q => by have := ho2 r q; omega), fun b q => ?_, fun b q q2 => ?_, fun c hc => ?_⟩, (k.trans hk1).then k13 fun b hb q => by have := ho2 b q; omega, i, o3, lo, o4, r0⟩ o2 o5 o6
  · rcases hx.new b q with q | q
    · exact hM b q
    · omega
  · have := h1.lt b (h1.own q); have := hown' b q2; omega
  · refine ⟨hx.sub c (hV c hc).1, ⟨(hV c hc).2.1, fun q => ?_⟩, (hV c hc).2.2⟩
    have := h1.lt c (hV c hc).1; have := hown' c q; omega
end
end Go.Proofs.Qxb6500896aGreatDoor
