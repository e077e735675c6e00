import Derived.Test.Qxb6500896aGreatK87
import Derived.Test.Qxb6500896aGreatK89
namespace Go.Proofs.Qxb6500896aGreat
open Go.Sh Go.RowKit
set_option linter.unusedVariables false
set_option linter.unusedSimpArgs false

/-! ### two rigs -/
structure Lz2 (W : World) (V U : Nat → Prop) (w : World) (r1 e1 : Nat) (σ1 : Sg) (J1 : Jr) (r2 e2 : Nat) (σ2 : Sg) (J2 : Jr) : Prop where
  ex : ∃ M m1 m2, (En M w e1 m1 park σ1 J1 ∧ En M w e2 m2 park σ2 J2) ∧ (Row w r1 47 [P m1.j 0, P e1 0] ∧ Row w r2 47 [P m2.j 0, P e2 0]) ∧ (∀ b, M b → W.heap.size ≤ b) ∧ (∀ b, OwnE e1 m1 b → ¬ OwnE e2 m2 b) ∧
    (∀ c, V c → M c ∧ (¬ OwnE e1 m1 c ∧ ¬ OwnE e2 m2 c) ∧ (c ≠ r1 ∧ c ≠ r2)) ∧ ∀ c, U c → ¬ M c ∧ c < w.heap.size
  k : Kp Emp W w
  i1 : RgI park σ1 J1
  i2 : RgI park σ2 J2
  lo1 : σ1.loose = 0
  lo2 : σ2.loose = 0
  r01 : W.heap.size ≤ r1
  r02 : W.heap.size ≤ r2
section
variable {W w w' w0 : World} {V V' U S F : Nat → Prop} {r1 e1 r2 e2 c : Nat} {σ1 σ2 : Sg} {J1 J2 : Jr} {K : Value → World → Prop} {v : Value} {bs : List Int} {M : Nat → Prop} {m : Me} {q : Rq} {l : List Value}
theorem Lz2.swap (z : Lz2 W V U w r1 e1 σ1 J1 r2 e2 σ2 J2) : Lz2 W V U w r2 e2 σ2 J2 r1 e1 σ1 J1 := by
  obtain ⟨M, m1, m2, ⟨h1, h2⟩, ⟨q1, q2⟩, hM, hd, hV, hU⟩ := z.ex
  exact ⟨⟨M, m2, m1, ⟨h2, h1⟩, ⟨q2, q1⟩, hM, fun b a b' => hd b b' a, fun c hc => ⟨(hV c hc).1, (hV c hc).2.1.symm, (hV c hc).2.2.symm⟩, hU⟩, z.k, z.i2, z.i1, z.lo2, z.lo1, z.r02, z.r01⟩
theorem Lz2.gro (z : Lz2 W V U w r1 e1 σ1 J1 r2 e2 σ2 J2) (hk : Kp S w w') (hS : ∀ b, S b → V b) : Lz2 W (fun b => V b ∨ Nb w w' b) U w' r1 e1 σ1 J1 r2 e2 σ2 J2 := by
  obtain ⟨M, m1, m2, ⟨h1, h2⟩, ⟨q1, q2⟩, hM, hd, hV, hU⟩ := z.ex
  have hWz := z.k.size
  have hx : Ext M (fun b => M b ∨ Nb w w' b) w w' := ⟨fun b q => .inl q, fun b q => q.imp id (·.1), hk.size, fun b q => by
    rcases q with q | q
    · have := h1.lt b q; have := hk.size; omega
    · exact q.2⟩
  refine ⟨⟨_, m1, m2, ⟨h1.ext hx hk (fun b q _ => (hV b (hS b q)).1) fun b q q2 => (hV b (hS b q2)).2.1.1 q, h2.ext hx hk (fun b q _ => (hV b (hS b q)).1) fun b q q2 => (hV b (hS b q2)).2.1.2 q⟩,
    ⟨hk.row q1 fun q => (hV r1 (hS r1 q)).2.2.1 rfl, hk.row q2 fun q => (hV r2 (hS r2 q)).2.2.2 rfl⟩, fun b q => ?_, hd, fun c q => ?_, fun c q => ⟨fun q2 => ?_, by have := (hU c q).2; have := hk.size; omega⟩⟩, z.k.then hk fun b hb q => by have := hM b (hV b (hS b q)).1; omega, z.i1, z.i2, z.lo1, z.lo2, z.r01, z.r02⟩
  · rcases q with q | q
    · exact hM b q
    · have := q.1; omega
  · rcases q with q | q
    · exact ⟨.inl (hV c q).1, (hV c q).2⟩
    · have := q.1
      have a1 := q1.lt
      have a2 := q2.lt
      exact ⟨.inr q, ⟨fun q2 => by have := h1.lt _ (h1.own q2); omega, fun q2 => by have := h2.lt _ (h2.own q2); omega⟩, by omega, by omega⟩
  · rcases q2 with q2 | q2
    · exact (hU c q).1 q2
    · have := (hU c q).2; have := q2.1; omega
theorem Lz2.sub (z : Lz2 W V U w r1 e1 σ1 J1 r2 e2 σ2 J2) (h : ∀ c, V' c → V c) : Lz2 W V' U w r1 e1 σ1 J1 r2 e2 σ2 J2 := by
  obtain ⟨M, m1, m2, hh, hq, hM, hd, hV, hU⟩ := z.ex
  exact ⟨⟨M, m1, m2, hh, hq, hM, hd, fun c hc => hV c (h c hc), hU⟩, z.k, z.i1, z.i2, z.lo1, z.lo2, z.r01, z.r02⟩
theorem Lz2.emp (z : Lz2 W V U w r1 e1 σ1 J1 r2 e2 σ2 J2) (hk : Kp Emp w w') : Lz2 W V U w' r1 e1 σ1 J1 r2 e2 σ2 J2 := by
  obtain ⟨M, m1, m2, ⟨h1, h2⟩, ⟨q1, q2⟩, hM, hd, hV, hU⟩ := z.ex
  exact ⟨⟨M, m1, m2, ⟨h1.kp' hk, h2.kp' hk⟩, ⟨hk.row' q1, hk.row' q2⟩, hM, hd, hV, fun c hc => ⟨(hU c hc).1, by have := (hU c hc).2; have := hk.size; omega⟩⟩, z.k.trans hk, z.i1, z.i2, z.lo1, z.lo2, z.r01, z.r02⟩
/-- what is new may also be left alone -/
theorem Lz2.im (z : Lz2 W V U w r1 e1 σ1 J1 r2 e2 σ2 J2) (hk : Kp Emp w w') : Lz2 W V (fun b => U b ∨ Nb w w' b) w' r1 e1 σ1 J1 r2 e2 σ2 J2 := by
  obtain ⟨M, m1, m2, ⟨h1, h2⟩, ⟨q1, q2⟩, hM, hd, hV, hU⟩ := z.ex
  refine ⟨⟨M, m1, m2, ⟨h1.kp' hk, h2.kp' hk⟩, ⟨hk.row' q1, hk.row' q2⟩, hM, hd, hV, fun c hc => ?_⟩, z.k.trans hk, z.i1, z.i2, z.lo1, z.lo2, z.r01, z.r02⟩
  rcases hc with hc | hc
  · exact ⟨(hU c hc).1, by have := (hU c hc).2; have := hk.size; omega⟩
  · exact ⟨fun q => by have := h1.lt c q; have := hc.1; omega, hc.2⟩
theorem Lz2.subU {U' : Nat → Prop} (z : Lz2 W V U w r1 e1 σ1 J1 r2 e2 σ2 J2) (h : ∀ c, U' c → U c) : Lz2 W V U' w r1 e1 σ1 J1 r2 e2 σ2 J2 := by
  obtain ⟨M, m1, m2, hh, hq, hM, hd, hV, hU⟩ := z.ex
  exact ⟨⟨M, m1, m2, hh, hq, hM, hd, hV, fun c hc => hU c (h c hc)⟩, z.k, z.i1, z.i2, z.lo1, z.lo2, z.r01, z.r02⟩
theorem Lz2.new (z : Lz2 W V U w r1 e1 σ1 J1 r2 e2 σ2 J2) (hk : Kp Emp w w') (h1 : w.heap.size ≤ c) (h2 : c < w'.heap.size) : Lz2 W (fun b => V b ∨ b = c) U w' r1 e1 σ1 J1 r2 e2 σ2 J2 := (z.gro (S := Emp) hk fun b q => q.elim).sub fun b q => q.imp id fun q => by subst q; exact ⟨h1, h2⟩
theorem Lz2.wr (z : Lz2 W V U w r1 e1 σ1 J1 r2 e2 σ2 J2) (hk : Kp S w w') (hS : ∀ b, S b → V b) : Lz2 W V U w' r1 e1 σ1 J1 r2 e2 σ2 J2 := (z.gro hk hS).sub fun c q => .inl q
theorem Lz2.lt (z : Lz2 W V U w r1 e1 σ1 J1 r2 e2 σ2 J2) : ∀ c, V c → c < w.heap.size := fun c hc => by
  obtain ⟨M, m1, m2, hh, hq, hM, hd, hV, hU⟩ := z.ex
  exact hh.1.lt c (hV c hc).1
theorem eb_of' (h : En M w e1 m park σ1 J1) (i : RgI park σ1 J1) (lo : σ1.loose = 0) (hq : σ1.seq ≤ 1000000000) : EB σ1 := by
  have hl := h.jn.ok.tot
  have hl2 := len_tot J1.log
  have ht := i.tl
  have hs := i.g.seq
  have hn := i.g.now
  exact ⟨by omega, by omega, by omega, by omega, by omega, by omega⟩
/-- a request is sent to the first -/
theorem Lz2.send (z : Lz2 W V U w r1 e1 σ1 J1 r2 e2 σ2 J2) (hq : σ1.seq ≤ 1000000000) (hx : Ar bC 1 F w v bs) (hF : ∀ b, F b → b < w.heap.size) (hB : By bs)
    (hK : ∀ w' v' b S, Lz2 W (fun c => V c ∨ c = b) U w' r1 e1 (hndS park bs σ1 J1).1 (hndS park bs σ1 J1).2.1 r2 e2 σ2 J2 → Sl bC 1 w' 5 (some b) v' (eR (hndS park bs σ1 J1).2.2) → w.heap.size ≤ b → Kp S w w' → (∀ c, V c → ¬ S c) → (∀ c, U c → ¬ S c) → (∀ c, c < W.heap.size → ¬ S c) → K v' w') : cl Tryz.prog 24 #[P r1 0, v] K w := by
  obtain ⟨M, m1, m2, ⟨h1, h2⟩, ⟨q1, q2⟩, hM, hd, hV, hU⟩ := z.ex
  have eb := eb_of' h1 z.i1 z.lo1 hq
  apply c24
  unfold s24_p1
  try simp only [e_fd, e_nck, e_pkt, e_pkf, e_gdtt, e_gdtf, e_gdft, e_gdff, e_ift, e_iff, e_not, e_ln, e_lnT, e_cp, e_cvi, e_ex20, e_ex21, e_ex30, e_ex31, e_ex32, e_add, e_sub, e_mul, e_quo, e_rem, e_and, e_or, e_xor, e_shl, e_shr, e_eql, e_neq, e_lss, e_leq, e_gtr, e_geq, e_beq, e_bne, e_peq1, e_peq2, e_pne1, e_pne2, e_zeq1, e_zeq2, e_zne1, e_zne2, e_feq1, e_fne1, e_feq2, e_fne2, e_seq, e_sne, e_ta1, e_ta2, Nat.zero_add, Nat.add_zero, Bool.not_true, Bool.not_false]
  refine ld1_r q1 rfl ?_
  try simp only [e_fd, e_nck, e_pkt, e_pkf, e_gdtt, e_gdtf, e_gdft, e_gdff, e_ift, e_iff, e_not, e_ln, e_lnT, e_cp, e_cvi, e_ex20, e_ex21, e_ex30, e_ex31, e_ex32, e_add, e_sub, e_mul, e_quo, e_rem, e_and, e_or, e_xor, e_shl, e_shr, e_eql, e_neq, e_lss, e_leq, e_gtr, e_geq, e_beq, e_bne, e_peq1, e_peq2, e_pne1, e_pne2, e_zeq1, e_zeq2, e_zne1, e_zne2, e_feq1, e_fne1, e_feq2, e_fne2, e_seq, e_sne, e_ta1, e_ta2, Nat.zero_add, Nat.add_zero, Bool.not_true, Bool.not_false]
  refine ld1_r q1 rfl ?_
  have hi := z.i1.hnd park_cv park_mb hB (by omega)
  refine hndE_ok park_cv (by decide) (fun _ => z.i1.g) eb h1 hx hF hB fun w1 M1 m1' v1 b1 hx1 hk1 hj1 ho1 h1' s1 fb1 mb1 => ?_
  have hWz := z.k.size
  have h2' := h2.ext hx1 hk1 (fun b q _ => h1.own q) fun b q q2 => hd b q2 q
  refine hK w1 v1 b1 (OwnE e1 m1) ⟨⟨M1, m1', m2, ⟨h1', h2'⟩, ⟨?_, ?_⟩, fun b q => ?_, fun b q qq => ?_, fun c q => ?_, fun c q => ⟨fun q2 => ?_, by have := (hU c q).2; have := hk1.size; omega⟩⟩, z.k.then hk1 fun b hb q => ?_, hi.1, z.i2, hi.2.1, z.lo2, z.r01, z.r02⟩ s1 fb1.1 hk1 (fun c q => (hV c q).2.1.1) (fun c q q2 => (hU c q).1 (h1.own q2)) fun c hc q => ?_
  · rw [hj1]; exact hk1.row q1 (h1.nRig q1)
  · exact hk1.row q2 (h1.nRig q2)
  · rcases hx1.new b q with q | q
    · exact hM b q
    · omega
  · rcases ho1 b q with q | q
    · exact hd b q qq
    · have := h2.lt b (h2.own qq); omega
  · have a1 := q1.lt
    have a2 := q2.lt
    rcases q with q | q
    · refine ⟨hx1.sub c (hV c q).1, ⟨fun q2 => ?_, (hV c q).2.1.2⟩, (hV c q).2.2⟩
      rcases ho1 c q2 with q2 | q2
      · exact (hV c q).2.1.1 q2
      · have := h1.lt c (hV c q).1; omega
    · subst q
      have := fb1.1
      exact ⟨mb1, ⟨fb1.2.2, fun q => by have := h2.lt _ (h2.own q); omega⟩, by omega, by omega⟩
  · rcases hx1.new c q2 with q2 | q2
    · exact (hU c q).1 q2
    · have := (hU c q).2; omega
  · have := hM b (h1.own q); omega
  · have := hM c (h1.own q); omega
theorem RgI.do (h : RgI park σ1 J1) (hR : RqN q) (hrb : xpr q = true → Rb q) (hs : σ1.seq + 1 ≤ 9223372036854775807) : RgI park (doS park q σ1 J1).1 (doS park q σ1 J1).2.1 ∧ (doS park q σ1 J1).1.loose = 0 ∧ RpN (doS park q σ1 J1).2.2 := by
  have h1 := (h.stg park_cv park_mb hR hrb hs).set park_cv park_mb
  have hrp := stgS_rpn (J := J1) (q := q) park_cv (by decide) fun _ => h.g
  unfold doS
  simp only
  rw [if_pos h1.2.2]
  exact ⟨h1.1, h1.2.1, hrp hR⟩
/-- a request is given to the first as a value -/
theorem Lz2.doV (z : Lz2 W V U w r1 e1 σ1 J1 r2 e2 σ2 J2) (hq : σ1.seq ≤ 1000000000) {lv : Value} (hl : Ar lC 2 U w lv q.legs) (hR : RqN q) (hrb : xpr q = true → Rb q)
    (hK : ∀ w' l F S, Lz2 W V U w' r1 e1 (doS park q σ1 J1).1 (doS park q σ1 J1).2.1 r2 e2 σ2 J2 → Rv F w' l (doS park q σ1 J1).2.2 → (∀ b, F b → w.heap.size ≤ b ∧ b < w'.heap.size) → Kp S w w' → (∀ c, V c → ¬ S c) → (∀ c, U c → ¬ S c) → (∀ c, c < W.heap.size → ¬ S c) → K (.agg l.toArray) w') : cl Tryz.prog 58 #[P e1 0, .agg (q.cells lv).toArray] K w := by
  obtain ⟨M, m1, m2, ⟨h1, h2⟩, ⟨q1, q2⟩, hM, hd, hV, hU⟩ := z.ex
  have eb := eb_of' h1 z.i1 z.lo1 hq
  have hi := z.i1.do hR hrb (by omega)
  refine doE_ok park_cv (by decide) (fun _ => z.i1.g) eb h1 ⟨lv, rfl, hl.mono hU⟩ hR fun w1 M1 m1' l1 hx1 hk1 hj1 ho1 h1' rv1 => ?_
  have hWz := z.k.size
  have h2' := h2.ext hx1 hk1 (fun b q _ => h1.own q) fun b q q2 => hd b q2 q
  refine hK w1 l1 (Fb w e1 w1 m1') (OwnE e1 m1) ⟨⟨M1, m1', m2, ⟨h1', h2'⟩, ⟨?_, ?_⟩, fun b q => ?_, fun b q qq => ?_, fun c q => ?_, fun c q => ⟨fun q2 => ?_, by have := (hU c q).2; have := hk1.size; omega⟩⟩, z.k.then hk1 fun b hb q => ?_, hi.1, z.i2, hi.2.1, z.lo2, z.r01, z.r02⟩ rv1 (fun b hb => ⟨hb.1, hb.2.1⟩) hk1 (fun c q => (hV c q).2.1.1) (fun c q q2 => (hU c q).1 (h1.own q2)) fun c hc q => ?_
  · rw [hj1]; exact hk1.row q1 (h1.nRig q1)
  · exact hk1.row q2 (h1.nRig q2)
  · rcases hx1.new b q with q | q
    · exact hM b q
    · omega
  · rcases ho1 b q with q | q
    · exact hd b q qq
    · have := h2.lt b (h2.own qq); omega
  · refine ⟨hx1.sub c (hV c q).1, ⟨fun q2 => ?_, (hV c q).2.1.2⟩, (hV c q).2.2⟩
    rcases ho1 c q2 with q2 | q2
    · exact (hV c q).2.1.1 q2
    · have := h1.lt c (hV c q).1; omega
  · rcases hx1.new c q2 with q2 | q2
    · exact (hU c q).1 q2
    · have := (hU c q).2; omega
  · have := hM b (h1.own q); omega
  · have := hM c (h1.own q); omega
/-- the first answers questions -/
theorem Lz2.srv (h : RgI park σ1 J1) (hlo : σ1.loose = 0) (hs : σ1.seq ≤ 1000000000) : Srv W (sendV r1) (ansE σ1 J1) (fun V w => ∃ σ', Lz2 W V U w r1 e1 σ' J1 r2 e2 σ2 J2 ∧ Core σ1 σ') where
  k := fun ⟨σ', z, c⟩ => z.k
  lt := fun ⟨σ', z, c⟩ => z.lt
  gro := fun ⟨σ', z, c⟩ hk hS => ⟨σ', z.gro hk hS, c⟩
  sub := fun ⟨σ', z, c⟩ hV => ⟨σ', z.sub hV, c⟩
  len := fun q => hnd_len h
  call := by
    intro V F w v q K ⟨σ', z, c⟩ hq ha hF hK
    have hseq := c.seq
    obtain ⟨x1, x2, x3⟩ := hq.hnd z.i1 z.lo1 (by omega)
    have ea := ansE_core hq h hlo (by omega) z.i1 z.lo1 (by omega) c
    refine ⟨okSend, ?_⟩
    show cl Tryz.prog 24 #[P r1 0, v] K w
    refine z.send (by omega) ha hF hq.by_ fun w1 v1 b1 S z1 sl1 hb1 hk1 hS hSU hW => ?_
    rw [x2] at z1
    have sl2 : Sl bC 1 w1 5 (some b1) v1 (ansE σ1 J1 q) := by rw [← ea]; exact sl1
    exact hK w1 v1 b1 S ⟨_, z1, c.trans x3⟩ sl2 hb1 hk1 hS hW
end
end Go.Proofs.Qxb6500896aGreat
