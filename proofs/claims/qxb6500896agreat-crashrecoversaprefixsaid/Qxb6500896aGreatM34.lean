import Derived.Test.Qxb6500896aGreatM30
import Derived.Test.Qxb6500896aGreatM31
import Derived.Test.Qxb6500896aGreatN29
import Derived.Test.Qxb6500896aGreatGE
namespace Go.Proofs.Qxb6500896aGreat
open Go.Sh Go.RowKit
set_option linter.unusedVariables false
set_option linter.unusedSimpArgs false

section
variable {O G F S V V' N : Nat → Prop} {W w w' w0 w1 : World} {r e m b1 b2 e2 : Nat} {v v1 v2 qv : Value} {l : List Value} {K : Value → World → Prop} {σ σ' σ2 : Sg} {J J' J2 : Jr} {bs : List Int} {bss : List (List Int)} {q : Rq} {xs : List Op} {X : World → Prop}
theorem eR_len' {p : Rp} (h : RpN p) (hc : p.cnt.length = 10) : (eR p).length ≤ 1000000000 := eR_len h hc
set_option maxHeartbeats 1000000 in
/-- a batch is sent to the rig -/
theorem Lz.batch (z : Lz W V w r e σ J) (jl : Jlm 48 72 1200 J) (hs : σ.seq + ((bss.length : Nat) : Int) ≤ 1000000000) (hq : Rwb F w qv bss) (hF : ∀ b, F b → V b ∨ b < W.heap.size) (hB : ∀ bs ∈ bss, By bs) (hn : bss.length ≤ 100000)
    (hK : ∀ w' v rb S (N : Nat → Prop), Lz W (fun c => V c ∨ N c) w' r e (batS park bss σ J).1 (batS park bss σ J).2.1 → Rpb (fun b => N b ∧ b ≠ rb) w' rb v (batS park bss σ J).2.2 → N rb → (∀ c, N c → w.heap.size ≤ c ∧ c < w'.heap.size) → Kp S w w' → (∀ c, V c → ¬ S c) → (∀ c, c < W.heap.size → ¬ S c) → K v w') : cl Tryz.prog 37 #[P r 0, qv] K w := by
  obtain ⟨M, me, h, hr, hM, hV⟩ := z.ex
  have kz := z.k.size
  have nM : ∀ b, b < W.heap.size → ¬ OwnE e me b := fun b hb q => by have := hM b (h.own q); omega
  obtain ⟨s1, s2, s3, s4, s5, s6⟩ := bat_set z.i jl hB hs
  apply c37
  unfold s37_p7
  refine nk0 (fdp (ld1_r (v := P e 0) hr rfl ?_))
  simp only [e_peq2]
  unfold s37_p6
  simp only [e_iff]
  unfold s37_p1
  refine nk0 (fdp (ld1_r (v := P e 0) hr rfl ?_))
  refine batE_ok park_cv (by decide) (fun k hk => ?_) h hq (fun b q => ?_) hB hn (fun p => eR_len) (fun bs σ J => stbS_cnt park bs σ J) fun w1 M1 m1 v1 rb hx hk hj ho h1 rp fb mb => ?_
  · have bi := batI z.i jl hB hs k hk
    exact ⟨bi.eb (by omega), fun _ => bi.i.g⟩
  · rcases hF b q with q | q
    · exact ⟨z.lt b q, (hV b q).2.1⟩
    · exact ⟨by omega, nM b q⟩
  · have hrl := hr.lt
    refine hK w1 v1 rb (OwnE e me) (fun b => Fb w e w1 m1 b ∧ M1 b) ⟨⟨M1, m1, h1, ?_, fun b q => ?_, fun c q => ?_⟩, z.k.then hk fun b hb q => nM b hb q, s1, s2, z.r0⟩ ?_ ⟨fb, mb⟩ (fun c q => ⟨q.1.1, q.1.2.1⟩) hk (fun c q => (hV c q).2.1) fun c hc => nM c hc
    · rw [hj]; exact hk.row hr (h.nRig hr)
    · rcases hx.new b q with q | q
      · exact hM b q
      · omega
    · rcases q with q | q
      · refine ⟨hx.sub c (hV c q).1, fun r => ?_, (hV c q).2.2⟩
        rcases ho c r with r | r
        · exact (hV c q).2.1 r
        · have := z.lt c q; omega
      · exact ⟨q.2, q.1.2.2, by have := q.1.1; omega⟩
    · obtain ⟨vals, a, b, c⟩ := rp
      exact ⟨vals, a, b, fun i p q => (c i p q).mono fun b q => ⟨⟨q.1, q.2.1⟩, q.2.2⟩⟩
/-! ### a rig, a second engine and a model -/
def Z3 (W : World) (r e m : Nat) (σ : Sg) (J : Jr) (e2 : Nat) (σ2 : Sg) (J2 : Jr) (V : Nat → Prop) (w : World) : Prop :=
  ∃ O G σ', LzE W (fun b => V b ∨ O b ∨ G b) w r e σ J e2 σ' J2 ∧ Core σ2 σ' ∧ Mo O G w m σ.ms ∧ ∀ b, V b → ¬ O b ∧ ¬ G b
theorem LzE.ge (z : LzE W V w r e σ J e2 σ2 J2) : ∀ c, V c → W.heap.size ≤ c := fun c hc => by
  obtain ⟨M, m1, m2, hh, hq, hM, hd, hV⟩ := z.ex
  exact hM c (hV c hc).1
theorem Z3.gro (z : Z3 W r e m σ J e2 σ2 J2 V w) (hk : Kp S w w') (hS : ∀ b, S b → V b) : Z3 W r e m σ J e2 σ2 J2 (fun b => V b ∨ Nb w w' b) w' := by
  obtain ⟨O, G, σ', h, c, mo, hd⟩ := z
  refine ⟨O, G, σ', (h.gro hk fun b q => .inl (hS b q)).sub fun b q => ?_, c, mo.kp hk fun b q => hd b (hS b q), fun b q => ?_⟩
  · rcases q with (q | q) | q | q
    · exact .inl (.inl q)
    · exact .inr q
    · exact .inl (.inr (.inl q))
    · exact .inl (.inr (.inr q))
  · rcases q with q | q
    · exact hd b q
    · exact ⟨fun r => by have := mo.lt b (.inl r); have := q.1; omega, fun r => by have := mo.lt b (.inr r); have := q.1; omega⟩
theorem Z3.sub (z : Z3 W r e m σ J e2 σ2 J2 V w) (hV : ∀ c, V' c → V c) : Z3 W r e m σ J e2 σ2 J2 V' w := by
  obtain ⟨O, G, σ', h, c, mo, hd⟩ := z
  exact ⟨O, G, σ', h.sub fun b q => q.imp (hV b) id, c, mo, fun b q => hd b (hV b q)⟩
theorem Z3.fst (z : Z3 W r e m σ J e2 σ2 J2 V w) : Zm W r e m σ J V w := by
  obtain ⟨O, G, σ', h, c, mo, hd⟩ := z
  exact ⟨O, G, σ, h.fst, Core.refl _, mo, hd⟩
/-- the second engine answers questions -/
theorem Z3.srvS (h : RgI park σ2 J2) (hlo : σ2.loose = 0) (hs : σ2.seq ≤ 1000000000) : Srv W (handV e2) (ansE σ2 J2) (Z3 W r e m σ J e2 σ2 J2) where
  k := fun z => z.fst.k
  lt := fun z => z.fst.lt
  gro := fun z hk hS => z.gro hk hS
  sub := fun z hV => z.sub hV
  len := fun q => hnd_len h
  call := by
    intro V F w v q K ⟨O, G, σ', z, c, mo, hd⟩ hq ha hF hK
    have hseq := c.seq
    obtain ⟨x1, x2, x3⟩ := hq.hnd z.i2 z.lo2 (by omega)
    have ea := ansE_core hq h hlo (by omega) z.i2 z.lo2 (by omega) c
    refine ⟨okHandM, ?_⟩
    show cl Tryz.prog 40 #[P e2 0, v] K w
    refine z.handle (by omega) ha hF hq.by_ fun w1 v1 b1 S z1 sl1 hb1 hk1 hS hW => ?_
    rw [x2] at z1
    have sl2 : Sl bC 1 w1 5 (some b1) v1 (ansE σ2 J2 q) := by rw [← ea]; exact sl1
    refine hK w1 v1 b1 S ⟨O, G, _, z1.sub fun b q => ?_, c.trans x3, mo.kp hk1 fun b q => ⟨fun r => hS b (.inr (.inl r)) q, fun r => hS b (.inr (.inr r)) q⟩, fun b q => ?_⟩ sl2 hb1 hk1 (fun c q => hS c (.inl q)) hW
    · rcases q with (q | q) | q | q
      · exact .inl (.inl q)
      · exact .inr q
      · exact .inl (.inr (.inl q))
      · exact .inl (.inr (.inr q))
    · rcases q with q | q
      · exact hd b q
      · subst q
        exact ⟨fun r => by have := mo.lt b (.inl r); omega, fun r => by have := mo.lt b (.inr r); omega⟩
/-- and so does the model -/
theorem Z3.srvM (h1 : RgI park σ J) (hlo1 : σ.loose = 0) (hs1 : σ.seq ≤ 1000000000) (h : RgI park σ2 J2) (hlo : σ2.loose = 0) (hs : σ2.seq ≤ 1000000000) (hc : Core σ σ2) : Srv W (hdlV m) (ansE σ2 J2) (Z3 W r e m σ J e2 σ2 J2) where
  k := fun z => z.fst.k
  lt := fun z => z.fst.lt
  gro := fun z hk hS => z.gro hk hS
  sub := fun z hV => z.sub hV
  len := fun q => hnd_len h
  call := by
    intro V F w v q K ⟨O, G, σ', z, c, mo, hd⟩ hq ha hF hK
    refine ⟨okHdl, ?_⟩
    show cl Tryz.prog 25 #[P m 0, v] K w
    have el : (enc q).length ≤ 1000000000000 := by
      have := enc_len (q := q) (by obtain ⟨op, id, at', sl, li, rfl, _⟩ := hq.ex; simp [qq])
      omega
    have hlt := z.lt
    refine handleM_ok mo h1.g ha hF hq.by_ el fun w1 v1 b1 O1 mw sl1 hb1 nb1 => ?_
    rw [hq.md] at mw sl1
    obtain ⟨x1, _, _⟩ := hq.hnd h1 hlo1 (by omega)
    have ea := ansE_core hq h1 hlo1 (by omega) h hlo (by omega) hc
    have sl2 : Sl bC 1 w1 5 (some b1) v1 (ansE σ2 J2 q) := by
      rw [ea]
      unfold ansE
      rw [x1, eR_ansQ]
      exact sl1
    have z1 := z.gro mw.k fun b q => .inr (.inl q)
    refine hK w1 v1 b1 O ⟨O1, G, σ', z1.sub fun b q => ?_, c, mw.mo, fun b q => ?_⟩ sl2 hb1 mw.k (fun c q => (hd c q).1) fun c hc q => ?_
    · rcases q with (q | q) | q | q
      · exact .inl (.inl q)
      · subst q
        exact .inr ⟨hb1, sl1.lt⟩
      · rcases mw.dn b q with q | q
        · exact .inl (.inr (.inl q))
        · exact .inr q
      · exact .inl (.inr (.inr q))
    · rcases q with q | q
      · refine ⟨fun r => ?_, (hd b q).2⟩
        rcases mw.dn b r with r | r
        · exact (hd b q).1 r
        · have := hlt b (.inl q); have := r.1; omega
      · subst q
        exact ⟨nb1, fun r => by have := mo.lt b (.inr r); omega⟩
    · have := z.ge c (.inr (.inl q)); omega
/-- both answer alike -/
theorem Z3.both (z : Z3 W r e m σ J e2 σ2 J2 V w) (h1 : RgI park σ J) (hlo1 : σ.loose = 0) (hs1 : σ.seq ≤ 1000000000) (h : RgI park σ2 J2) (hlo : σ2.loose = 0) (hc : Core σ σ2) (hK : ∀ w' V', Zm W r e m σ J V' w' → K (.bool true) w') :
    cl Tryz.prog 26 #[handV e2] (fun t35 w => cl Tryz.prog 26 #[hdlV m] (fun t38 w => cl Tryz.prog 23 #[t35, t38] K w) w) w := by
  have hs2 := hc.seq
  have sgn := h.g.now
  have sgs := h.g.seq
  have hlen := h.g.len
  have hmc : park.mc = 36 := rfl
  have hmb : park.mb = 26 := rfl
  rw [hmc] at sgn
  rw [hmb] at hlen
  refine observe_ok (Z3.srvS h hlo (by omega)) z (ansE_clk h hlo (by omega)) ⟨sgn.1, by omega⟩ ⟨by omega, by omega⟩ ⟨by omega, by omega⟩ fun w1 v1 b1 V1 z1 hV1 hb1 hbn1 sl1 st1 => ?_
  refine observe_ok (Z3.srvM h1 hlo1 hs1 h hlo (by omega) hc) z1 (ansE_clk h hlo (by omega)) ⟨sgn.1, by omega⟩ ⟨by omega, by omega⟩ ⟨by omega, by omega⟩ fun w2 v2 b2 V2 z2 hV2 hb2 hbn2 sl2 st2 => ?_
  have ol := obsM_len σ2.now
  have fl := fl_len (ans := ansE σ2 J2) (fun q => hnd_len h) (obs σ2.now)
  refine sameB_ok ((stayM_sl sl1 hb1 st2).arb (by omega)) (sl2.arb (by omega)) fun w3 hk3 => ?_
  rw [decide_eq_true rfl]
  exact hK w3 V2 (z2.fst.emp hk3)
end
end Go.Proofs.Qxb6500896aGreat
