import Derived.Test.Qxb6500896aGreatM34
import Derived.Test.Qxb6500896aGreatN34
import Derived.Test.Qxb6500896aGreatGi
import Derived.Test.Qxb6500896aGreatGF
namespace Go.Proofs.Qxb6500896aGreat
open Go.Sh Go.RowKit
set_option linter.unusedVariables false
set_option linter.unusedSimpArgs false

/-! ### long runs: the same with a larger bound -/
section
variable {O G F S V V' N M : Nat → Prop} {W w w' w0 w1 : World} {r e m b1 b2 e2 : Nat} {v v1 v2 qv : Value} {l : List Value} {K : Value → World → Prop} {σ σ' σ2 : Sg} {J J' J2 : Jr} {bs : List Int} {bss : List (List Int)} {q : Rq} {xs : List Op} {X : World → Prop} {ob : Option Nat} {vals : List Value}
theorem eb_ofL (z : Lz W V w r e σ J) (hq : σ.seq ≤ 1000000000000) : EB σ := by
  obtain ⟨M, m, h, _⟩ := z.ex
  have hl := h.jn.ok.tot
  have hl2 := len_tot J.log
  have ht := z.i.tl
  have hlo := z.lo
  have hs := z.i.g.seq
  have hn := z.i.g.now
  exact ⟨by omega, by omega, by omega, by omega, by omega, by omega⟩
theorem Lz.sendL (z : Lz W V w r e σ J) (hq : σ.seq ≤ 1000000000000) (hx : Ar bC 1 F w v bs) (hF : ∀ b, F b → b < w.heap.size) (hB : By bs)
    (hK : ∀ w' v' b S, Lz W (fun c => V c ∨ c = b) w' r e (hndS park bs σ J).1 (hndS park bs σ J).2.1 → Sl bC 1 w' 5 (some b) v' (eR (hndS park bs σ J).2.2) → w.heap.size ≤ b → Kp S w w' → (∀ c, V c → ¬ S c) → (∀ c, c < W.heap.size → ¬ S c) → K v' w') : cl Tryz.prog 24 #[P r 0, v] K w := by
  have eb := eb_ofL z hq
  obtain ⟨M, m, h, hr, hM, hV⟩ := z.ex
  apply c24
  unfold s24_p1
  try simp only [e_fd, e_nck, e_pkt, e_pkf, e_gdtt, e_gdtf, e_gdft, e_gdff, e_ift, e_iff, e_not, e_ln, e_lnT, e_cp, e_cvi, e_ex20, e_ex21, e_ex30, e_ex31, e_ex32, e_add, e_sub, e_mul, e_quo, e_rem, e_and, e_or, e_xor, e_shl, e_shr, e_eql, e_neq, e_lss, e_leq, e_gtr, e_geq, e_beq, e_bne, e_peq1, e_peq2, e_pne1, e_pne2, e_zeq1, e_zeq2, e_zne1, e_zne2, e_feq1, e_fne1, e_feq2, e_fne2, e_seq, e_sne, e_ta1, e_ta2, Nat.zero_add, Nat.add_zero, Bool.not_true, Bool.not_false]
  refine ld1_r hr rfl ?_
  try simp only [e_fd, e_nck, e_pkt, e_pkf, e_gdtt, e_gdtf, e_gdft, e_gdff, e_ift, e_iff, e_not, e_ln, e_lnT, e_cp, e_cvi, e_ex20, e_ex21, e_ex30, e_ex31, e_ex32, e_add, e_sub, e_mul, e_quo, e_rem, e_and, e_or, e_xor, e_shl, e_shr, e_eql, e_neq, e_lss, e_leq, e_gtr, e_geq, e_beq, e_bne, e_peq1, e_peq2, e_pne1, e_pne2, e_zeq1, e_zeq2, e_zne1, e_zne2, e_feq1, e_fne1, e_feq2, e_fne2, e_seq, e_sne, e_ta1, e_ta2, Nat.zero_add, Nat.add_zero, Bool.not_true, Bool.not_false]
  refine ld1_r hr rfl ?_
  have hi := z.i.hnd park_cv park_mb hB (by omega)
  refine hndE_ok park_cv (by decide) (fun _ => z.i.g) eb h hx hF hB fun w1 M1 m1 v1 b1 hx1 hk1 hj1 ho1 h1 s1 fb1 mb1 => ?_
  have hWz := z.k.size
  refine hK w1 v1 b1 (OwnE e m) ⟨⟨M1, m1, h1, ?_, fun b q => ?_, fun c q => ?_⟩, z.k.then hk1 fun b hb q => ?_, hi.1, hi.2.1, z.r0⟩ s1 fb1.1 hk1 (fun c q => (hV c q).2.1) fun c hc q => ?_
  · rw [hj1]; exact hk1.row hr (h.nRig hr)
  · rcases hx1.new b q with q | q
    · exact hM b q
    · omega
  · rcases q with q | q
    · refine ⟨hx1.sub c (hV c q).1, fun q2 => ?_, (hV c q).2.2⟩
      rcases ho1 c q2 with q2 | q2
      · exact (hV c q).2.1 q2
      · have := h.lt c (hV c q).1; omega
    · subst q
      exact ⟨mb1, fb1.2.2, fun e => by have := hr.lt; have := fb1.1; omega⟩
  · have := hM b (h.own q); omega
  · have := hM c (h.own q); omega
theorem Zm.sendL (z : Zm W r e m σ J V w) (hq : σ.seq ≤ 1000000000000) (hx : Ar bC 1 F w v bs) (hF : ∀ b, F b → b < w.heap.size) (hB : By bs)
    (hK : ∀ w' v' b S σ' O G, Core σ σ' → RgI park σ' J → σ'.loose = 0 → Lz W (fun c => (V c ∨ c = b) ∨ O c ∨ G c) w' r e (hndS park bs σ' J).1 (hndS park bs σ' J).2.1 → Mo O G w' m σ.ms → (∀ c, V c ∨ c = b → ¬ O c ∧ ¬ G c) → Sl bC 1 w' 5 (some b) v' (eR (hndS park bs σ' J).2.2) → w.heap.size ≤ b → Kp S w w' → (∀ c, V c → ¬ S c) → (∀ c, c < W.heap.size → ¬ S c) → K v' w') : cl Tryz.prog 24 #[P r 0, v] K w := by
  obtain ⟨O, G, σ', h, c, mo, hd⟩ := z
  have hseq := c.seq
  refine h.sendL (by omega) hx hF hB fun w1 v1 b1 S z1 sl1 hb1 hk1 hS hW => ?_
  refine hK w1 v1 b1 S σ' O G c h.i h.lo (z1.sub fun b q => ?_) (mo.kp hk1 fun b q => ⟨fun r => hS b (.inr (.inl r)) q, fun r => hS b (.inr (.inr r)) q⟩) (fun b q => ?_) sl1 hb1 hk1 (fun c q => hS c (.inl q)) hW
  · rcases q with (q | q) | q | q
    · exact .inl (.inl q)
    · exact .inr q
    · exact .inl (.inr (.inl q))
    · exact .inl (.inr (.inr q))
  · rcases q with q | q
    · exact hd b q
    · subst q
      exact ⟨fun r => by have := mo.lt b (.inl r); omega, fun r => by have := mo.lt b (.inr r); omega⟩
theorem Zm.srvRL (h : RgI park σ J) (hlo : σ.loose = 0) (hs : σ.seq ≤ 1000000000000) : Srv W (sendV r) (ansE σ J) (Zm W r e m σ J) where
  k := fun z => z.k
  lt := fun z => z.lt
  gro := fun z hk hS => z.gro hk hS
  sub := fun z hV => z.sub hV
  len := fun q => hnd_len h
  call := by
    intro V F w v q K z hq ha hF hK
    refine ⟨okSend, ?_⟩
    show cl Tryz.prog 24 #[P r 0, v] K w
    refine z.sendL hs ha hF hq.by_ fun w1 v1 b1 S σ' O G c i lo z1 mo hd sl1 hb1 hk1 hS hW => ?_
    have hseq := c.seq
    obtain ⟨e1, e2, e3⟩ := hq.hnd i lo (by omega)
    have ea := ansE_core hq h hlo (by omega) i lo (by omega) c
    rw [e2] at z1
    have sl2 : Sl bC 1 w1 5 (some b1) v1 (ansE σ J q) := by rw [← ea]; exact sl1
    exact hK w1 v1 b1 S ⟨O, G, _, z1, c.trans e3, mo, hd⟩ sl2 hb1 hk1 hS hW
theorem Zm.srvML (h : RgI park σ J) (hlo : σ.loose = 0) (hs : σ.seq ≤ 1000000000000) : Srv W (hdlV m) (ansE σ J) (Zm W r e m σ J) where
  k := fun z => z.k
  lt := fun z => z.lt
  gro := fun z hk hS => z.gro hk hS
  sub := fun z hV => z.sub hV
  len := fun q => hnd_len h
  call := by
    intro V F w v q K z hq ha hF hK
    refine ⟨okHdl, ?_⟩
    show cl Tryz.prog 25 #[P m 0, v] K w
    have el : (enc q).length ≤ 1000000000000 := by
      have := enc_len (q := q) (by obtain ⟨op, id, at', sl, li, rfl, _⟩ := hq.ex; simp [qq])
      omega
    refine z.hdl h.g ha hF hq.by_ el fun w1 v1 b1 S σ' O G c z1 mo hd sl1 hb1 hk1 hS hW => ?_
    rw [hq.md] at mo sl1
    obtain ⟨e1, _, _⟩ := hq.hnd h hlo (by omega)
    have sl2 : Sl bC 1 w1 5 (some b1) v1 (ansE σ J q) := by
      unfold ansE
      rw [e1, eR_ansQ]
      exact sl1
    exact hK w1 v1 b1 S ⟨O, G, σ', z1, c, mo, hd⟩ sl2 hb1 hk1 hS hW
theorem Zm.bothL (z : Zm W r e m σ J V w) (h : RgI park σ J) (hlo : σ.loose = 0) (hs : σ.seq ≤ 1000000000000) (hK : ∀ w' V', Zm W r e m σ J V' w' → K (.bool true) w') :
    cl Tryz.prog 26 #[sendV r] (fun t35 w => cl Tryz.prog 26 #[hdlV m] (fun t38 w => cl Tryz.prog 23 #[t35, t38] K w) w) w := by
  have sgn := h.g.now
  have sgs := h.g.seq
  have hlen := h.g.len
  have hmc : park.mc = 36 := rfl
  have hmb : park.mb = 26 := rfl
  rw [hmc] at sgn
  rw [hmb] at hlen
  refine observe_ok (Zm.srvRL h hlo hs) z (ansE_clk h hlo (by omega)) ⟨sgn.1, by omega⟩ ⟨by omega, by omega⟩ ⟨by omega, by omega⟩ fun w1 v1 b1 V1 z1 hV1 hb1 hbn1 sl1 st1 => ?_
  refine observe_ok (Zm.srvML h hlo hs) z1 (ansE_clk h hlo (by omega)) ⟨sgn.1, by omega⟩ ⟨by omega, by omega⟩ ⟨by omega, by omega⟩ fun w2 v2 b2 V2 z2 hV2 hb2 hbn2 sl2 st2 => ?_
  have ol := obsM_len σ.now
  have fl := fl_len (ans := ansE σ J) (fun q => hnd_len h) (obs σ.now)
  refine sameB_ok ((stayM_sl sl1 hb1 st2).arb (by omega)) (sl2.arb (by omega)) fun w3 hk3 => ?_
  rw [decide_eq_true rfl]
  exact hK w3 V2 (z2.emp hk3)
theorem batIL (h : RgI park σ J) (hl : Jlm 48 72 1200 J) (hB : ∀ bs ∈ bss, By bs) (hs : σ.seq + ((bss.length : Nat) : Int) ≤ 1000000000000) : ∀ k, k ≤ bss.length → BatI σ J bss k
  | 0, _ => by
    rw [show (0 : Nat) = 0 from rfl]
    exact ⟨h, hl, by simp [stbL]⟩
  | k + 1, hk => by
    obtain ⟨i, l, s⟩ := batIL h hl hB hs k (by omega)
    have hkb : k < bss.length := by omega
    have hby := hB _ (List.getElem_mem hkb)
    refine ⟨?_, ?_, ?_⟩
    all_goals rw [List.take_succ_eq_append_getElem hkb, stbL_app]
    · exact i.stb park_cv park_mb hby (by omega)
    · exact l.stb park_cv park_mb (by decide) i
    · have := stbS_q park bss[k] (stbL park (bss.take k) σ J).1 (stbL park (bss.take k) σ J).2.1
      simp only
      omega
theorem BatI.ebL {k : Nat} (h : BatI σ J bss k) (hs : σ.seq + ((k : Nat) : Int) ≤ 1000000000000) : EB (stbL park (bss.take k) σ J).1 := by
  have := h.l.tt
  have := len_tot (stbL park (bss.take k) σ J).2.1.log
  have := h.i.tl
  have := h.i.lo
  have := h.i.g.seq
  have := h.i.g.now
  have := h.s
  exact ⟨by omega, by omega, by omega, by omega, by omega, by omega⟩
theorem bat_setL (h : RgI park σ J) (hl : Jlm 48 72 1200 J) (hB : ∀ bs ∈ bss, By bs) (hs : σ.seq + ((bss.length : Nat) : Int) ≤ 1000000000000) :
    RgI park (batS park bss σ J).1 (batS park bss σ J).2.1 ∧ (batS park bss σ J).1.loose = 0 ∧ Jlm 48 72 1200 (batS park bss σ J).2.1 ∧ (batS park bss σ J).1.ms = (stbL park bss σ J).1.ms ∧ (batS park bss σ J).1.seq ≤ σ.seq + ((bss.length : Nat) : Int) ∧ (batS park bss σ J).2.2 = (stbL park bss σ J).2.2.map eR := by
  obtain ⟨i, l, s⟩ := batIL h hl hB hs bss.length (Nat.le_refl _)
  rw [List.take_length] at i l s
  have h1 := i.set park_cv park_mb
  have h2 := setS_same park (stbL park bss σ J).1 (stbL park bss σ J).2.1
  refine ⟨h1.1, h1.2.1, l.set park_cv park_mb (by decide) i, h2.ms, ?_, ?_⟩
  · show (setS park (stbL park bss σ J).1 (stbL park bss σ J).2.1).1.seq ≤ _
    rw [h2.seq]; exact s
  · unfold batS
    simp only
    rw [if_pos h1.2.2]
set_option maxHeartbeats 1000000 in
theorem Lz.hbat (z : Lz W V w r e σ J) (jl : Jlm 48 72 1200 J) (hs : σ.seq + ((bss.length : Nat) : Int) ≤ 1000000000000) (hq : Rwb F w qv bss) (hF : ∀ b, F b → V b ∨ b < W.heap.size) (hB : ∀ bs ∈ bss, By bs) (hn : bss.length ≤ 100000)
    (hK : ∀ w' v rb S (N : Nat → Prop), Lz W (fun c => V c ∨ N c) w' r e (batS park bss σ J).1 (batS park bss σ J).2.1 → Rpb (fun b => N b ∧ b ≠ rb) w' rb v (batS park bss σ J).2.2 → N rb → (∀ c, N c → w.heap.size ≤ c ∧ c < w'.heap.size) → Kp S w w' → (∀ c, V c → ¬ S c) → (∀ c, c < W.heap.size → ¬ S c) → K v w') : cl Tryz.prog 118 #[P e 0, qv] K w := by
  obtain ⟨M, me, h, hr, hM, hV⟩ := z.ex
  have kz := z.k.size
  have nM : ∀ b, b < W.heap.size → ¬ OwnE e me b := fun b hb q => by have := hM b (h.own q); omega
  obtain ⟨s1, s2, s3, s4, s5, s6⟩ := bat_setL z.i jl hB hs
  refine batE_ok park_cv (by decide) (fun k hk => ?_) h hq (fun b q => ?_) hB hn (fun p => eR_len) (fun bs σ J => stbS_cnt park bs σ J) fun w1 M1 m1 v1 rb hx hk hj ho h1 rp fb mb => ?_
  · have bi := batIL z.i jl hB hs k hk
    exact ⟨bi.ebL (by omega), fun _ => bi.i.g⟩
  · rcases hF b q with q | q
    · exact ⟨z.lt b q, (hV b q).2.1⟩
    · exact ⟨by omega, nM b q⟩
  · have hrl := hr.lt
    refine hK w1 v1 rb (OwnE e me) (fun b => Fb w e w1 m1 b ∧ M1 b) ⟨⟨M1, m1, h1, ?_, fun b q => ?_, fun c q => ?_⟩, z.k.then hk fun b hb q => nM b hb q, s1, s2, z.r0⟩ ?_ ⟨fb, mb⟩ (fun c q => ⟨q.1.1, q.1.2.1⟩) hk (fun c q => (hV c q).2.1) fun c hc => nM c hc
    · rw [hj]; exact hk.row hr (h.nRig hr)
    · rcases hx.new b q with q | q
      · exact hM b q
      · omega
    · rcases q with q | q
      · refine ⟨hx.sub c (hV c q).1, fun r => ?_, (hV c q).2.2⟩
        rcases ho c r with r | r
        · exact (hV c q).2.1 r
        · have := z.lt c q; omega
      · exact ⟨q.2, q.1.2.2, by have := q.1.1; omega⟩
    · obtain ⟨vals, a, b, c⟩ := rp
      exact ⟨vals, a, b, fun i p q => (c i p q).mono fun b q => ⟨⟨q.1, q.2.1⟩, q.2.2⟩⟩
end
end Go.Proofs.Qxb6500896aGreat
