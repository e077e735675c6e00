import Derived.Test.Qxb6500896aGreatM38
import Derived.Test.Qxb6500896aGreatC9
namespace Go.Proofs.Qxb6500896aGreat
open Go.Sh Go.RowKit
set_option linter.unusedVariables false
set_option linter.unusedSimpArgs false

/-- all that a state answers -/
def obL (σ : Sg) : List Int := (obs σ.now).flatMap fun q => quM q σ
section
variable {O G F S V V' N Fr : Nat → Prop} {W w w' w0 w1 : World} {r e m b1 b2 e2 rb o8 : Nat} {v v1 v2 qv fv x t4 t5 t6 t9 t10 t25 t26 t27 : Value} {l : List Value} {K : Value → World → Prop} {B1 : List Value → World → Prop} {σ σ' σ2 c : Sg} {J J' J2 : Jr} {bs : List Int} {bss inF outs : List (List Int)} {q : Rq} {X : World → Prop} {k k' : Int} {ob obq obf : Option Nat} {vals qvals fvals : List Value} {op : Op × Value} {Y : (Nat → Prop) → World → Prop}
theorem obL_ms (h : σ.ms = c.ms) : obL σ = obL c := by
  unfold obL
  have h1 : σ.now = c.now := congrArg Ms.now h
  rw [h1]
  have : (fun q => quM q σ) = fun q => quM q c := funext fun q => quM_ms h
  rw [this]
theorem obL_len (g : SGd park σ) : (obL σ).length ≤ 1000000000000 := by
  have hn := g.now
  have hmc : park.mc = 36 := rfl
  rw [hmc] at hn
  have e := obs_quM (σ := σ.nrm) (J := jr0 0 0 0) rfl rfl hn
  have e2 : (obs σ.nrm.now).flatMap (fun q => quM q σ.nrm) = obL σ := obL_ms (σ := σ.nrm) (c := σ) rfl
  rw [e2] at e
  rw [← e]
  have ol := obsM_len σ.nrm.now
  have fl := fl_len (ans := ansE σ.nrm (jr0 0 0 0)) (fun q => by
    refine eR_len ?_ (hndS_cnt park (enc q) σ.nrm _)
    have hrp := stbS_rpn (J := jr0 0 0 0) (bs := enc q) (σ := σ.nrm) park_cv (by decide) (fun _ => g)
    unfold hndS
    simp only
    split
    · exact hrp
    · exact RpN.rf ⟨by decide, by decide⟩) (obs σ.nrm.now)
  omega
theorem gd_b (g : SGd park σ) : (0 ≤ σ.now ∧ σ.now ≤ 36) ∧ ((σ.rs.length : Nat) : Int) ≤ 26 := by
  have hn := g.now
  have hmc : park.mc = 36 := rfl
  rw [hmc] at hn
  have hl := g.len
  have hmb : park.mb = 26 := rfl
  rw [hmb] at hl
  exact ⟨hn, hl⟩
/-- the model is asked all -/
theorem obs_m (ry : Rg W Y) (z : Zg Y m c.ms V w) (g : SGd park c) (hK : ∀ w' v' b V', Zg Y m c.ms V' w' → (∀ d, V d → V' d) → V' b → Sl bC 1 w' 5 (some b) v' (obL c) → Stay V w w' → K v' w') : cl Tryz.prog 26 #[hdlV m] K w := by
  obtain ⟨hn, hl⟩ := gd_b g
  refine observe_ok (Zg.srvM (J := jr0 0 0 0) ry g) z (clk_quM (σ := c.nrm) rfl rfl) ⟨hn.1, by show c.now ≤ 1000000; omega⟩ ⟨by show 0 ≤ c.now + 7; omega, by show c.now + 7 ≤ _; omega⟩ ⟨by omega, by show ((c.rs.length : Nat) : Int) ≤ _; omega⟩ fun w1 v1 b1 V1 z1 hV1 hb1 hbn1 sl1 st1 => ?_
  rw [obs_quM (σ := c.nrm) rfl rfl hn] at sl1
  have e2 : (obs c.nrm.now).flatMap (fun q => quM q c.nrm) = obL c := obL_ms (σ := c.nrm) (c := c) rfl
  rw [e2] at sl1
  exact hK w1 v1 b1 V1 z1 hV1 hb1 sl1 st1
/-- the rig that is up is asked all -/
theorem obs_r (z : Zg (YU W r e σ J) m c.ms V w) (gs : GS k σ) (hk : k ≤ 1000000) (hd : σ.down = false) (hK : ∀ w' v' b V', Zg (YU W r e σ J) m c.ms V' w' → (∀ d, V d → V' d) → V' b → Sl bC 1 w' 5 (some b) v' (obL σ) → Stay V w w' → K v' w') : cl Tryz.prog 26 #[sendV r] K w := by
  have g := gs.g hd
  have lo := gs.lo hd
  obtain ⟨hn, hl⟩ := gd_b g
  refine observe_ok ((Le.srv (W := W) (r := r) (e := e) (J := J) gs hk hd).zg (m := m) (s := c.ms) yuRg) z (clk_quM hd lo) ⟨hn.1, by omega⟩ ⟨by omega, by omega⟩ ⟨by omega, by omega⟩ fun w1 v1 b1 V1 z1 hV1 hb1 hbn1 sl1 st1 => ?_
  rw [obs_quM hd lo hn] at sl1
  exact hK w1 v1 b1 V1 z1 hV1 hb1 sl1 st1
theorem Stay.sl {T : TypeId} {xs : List Int} (sl : Sl bC 1 w T (some b1) v xs) (hV : V b1) (st : Stay V w w') : Sl bC 1 w' T (some b1) v xs := stayM_sl sl hV st
theorem Stay.qu (h : Qu W w ob qv vals bss) (hV : ∀ b, ob = some b → V b) (st : Stay V w w') : Qu W w' ob qv vals bss := by
  refine ⟨?_, h.ln, h.at_, h.by_⟩
  have sl := h.sl
  cases ob with
  | none => exact sl
  | some b =>
    obtain ⟨cap, junk, h1, h2, h3, h4⟩ := sl
    exact ⟨cap, junk, h1, h2, h3, st.2 b (hV b rfl) _ _ h4⟩
theorem Kp.stay (hk : Kp S w w') (hS : ∀ d, V d → ¬ S d) : Stay V w w' := ⟨hk.size, fun c hc T l r => hk.row r (hS c hc)⟩
theorem Stay.sub (h : Stay V w w') (hV : ∀ d, V' d → V d) : Stay V' w w' := ⟨h.1, fun c hc => h.2 c (hV c hc)⟩
/-- what follows a recovery -/
abbrev NextR (W : World) (r m : Nat) (K : Value → World → Prop) (B1 : List Value → World → Prop) (t5 t25 t26 t27 : Value) (k : Int) (V : Nat → Prop) (w : World) (obf : Option Nat) : Prop :=
  ∀ w' J' inF' obf' fv' fvals' V', CS W r m k J' inF' V' w' → (∀ b, V b → V' b) → (∀ b, obf' = some b → V' b) → (obf' = none ∨ obf' = obf) → Qu W w' obf' fv' fvals' inF' → GJ k J' → Stay V w w' → inF'.length ≤ 100000 → (inF' = [] → fv' = nilS) → s6_p2 K B1 (P r 0) (P m 0) t5 fv' t25 t26 t27 w'
set_option maxHeartbeats 4000000 in
/-- the model is led to the state that came back -/
theorem rec_loop (z : Zg (YU W r e σ J) m c.ms V w) (g : SGd park c) (gs : GS k σ) (gj : GJ k J) (hk : k ≤ 1000000) (hd : σ.down = false) (rq : RgQ (Core σ) σ J) (hch : Ch inF c σ) (hf : Qu W w obf fv fvals inF) (hVf : ∀ b, obf = some b → V b) (hfl : inF.length ≤ 100000) (hb1 : V b1) (sl : Sl bC 1 w 5 (some b1) v1 (obL σ))
    (next : ∀ w' J' V', CS W r m k J' [] V' w' → (∀ b, V b → V' b) → GJ k J' → Stay V w w' → s6_p2 K B1 (P r 0) (P m 0) t5 nilS t25 t26 t27 w') :
    s6_p12 K B1 (P r 0) (P m 0) t5 fv v1 (.bool (decide (obL σ = obL c))) (I 0) t25 t26 t27 w := by
  have gσ := gs.g hd
  have loσ := gs.lo hd
  unfold s6_p12
  refine loop_m inF.length (fun n l w' => ∃ (i : Nat) (c' : Sg) (V' : Nat → Prop), n + i = inF.length ∧ l = [P r 0, P m 0, t5, fv, v1, .bool (decide (obL σ = obL c')), I (i : Nat), t25, t26, t27] ∧ Zg (YU W r e σ J) m c'.ms V' w' ∧ (∀ b, V b → V' b) ∧ SGd park c' ∧ Ch (inF.drop i) c' σ ∧ Stay V w w') ⟨0, c, V, by omega, rfl, z, fun b q => q, g, by rw [List.drop_zero]; exact hch, Stay.refl⟩ ?_
  rintro n l w1 ⟨i, c1, V1, hni, rfl, z1, hV1, g1, hch1, st1⟩ B2 hB2
  rw [s6_p12_Fe]
  unfold s6_p11
  have sl1 := stayM_sl sl hb1 st1
  have f1 := Stay.qu hf hVf st1
  by_cases hfo : obL σ = obL c1
  · simp only [decide_eq_true hfo, e_not, Bool.not_true, e_gdft, e_pkf, e_iff]
    unfold s6_p10
    simp only [e_not, Bool.not_true, e_iff]
    have hms : σ.ms = c1.ms := obs_inj gσ g1 hfo
    obtain ⟨O, G, ⟨σ1, zl, cc, d1, d2, d3⟩, mo, hdj⟩ := z1
    rw [← hms, ← cc.ms] at mo
    have gs1 : GS k σ1 := ⟨fun _ => cc.gd gσ, fun _ => d2, by rw [cc.seq]; exact gs.s, by rw [d3]; exact gs.t, by rw [d2]; have := gs.l; omega⟩
    have rq1 : RgQ (Core σ1) σ1 J := (rq.same cc (by rw [d1, hd]) d3 (by rw [d2, loσ])).mono fun s q => cc.symm.trans q
    exact next w1 J V1 (.inl ⟨⟨e, σ1, ⟨O, G, zl, mo, hdj⟩, d1, gs1, rq1⟩, rfl⟩) hV1 gj st1
  · simp only [decide_eq_false hfo, e_not, Bool.not_false, e_gdtt]
    have fA : Ar one 1 (fun b => obf = some b) w1 fv fvals := f1.sl.ar one_len (by have := f1.ln; omega) fun b e => e
    refine fA.ln ?_
    rw [f1.ln]
    simp only [e_lss, e_pkt]
    cases n with
    | zero =>
      exfalso
      rw [List.drop_of_length_le (by omega)] at hch1
      exact hfo (obL_ms hch1)
    | succ n =>
      have hi : i < inF.length := by omega
      have hi2 : i < fvals.length := by rw [f1.ln]; exact hi
      simp only [decide_eq_true (show ((i : Nat) : Int) < ((inF.length : Nat) : Int) by omega), e_ift]
      rw [List.drop_eq_getElem_cons hi] at hch1
      obtain ⟨c2, g2, e2, hch2⟩ : ∃ c', SGd park c' ∧ c'.ms = (mdS inF[i] c1).1.ms ∧ Ch (inF.drop (i + 1)) c' σ := by
        rcases hch1 with q | q
        · exact absurd (obL_ms q) hfo
        · exact q
      refine fA.ix hi2 fun b o _ cc => ?_
      refine cc.ld0 (v := fvals[i]) rfl ?_
      have hbk := f1.by_ _ (List.getElem_mem hi)
      have kz := (z1.k0 yuRg).size
      refine z1.hdl yuRg g1 ((f1.at_ i hi2 hi).kp' (z1.k0 yuRg)) (fun b q => by omega) hbk.1 (by omega) fun w2 v2 b2 S2 z2 sl2 hb2 hk2 hS2 hW2 => ?_
      rw [← e2] at z2
      have st2 : Stay V w w2 := st1.trans (Kp.stay (V := V) hk2 fun d q => hS2 d (hV1 d q)) fun d q => q
      refine obs_m yuRg z2 g2 fun w3 v3 b3 V3 z3 hV3 hb3 sl3 st3 => ?_
      have st3' : Stay V w w3 := st2.trans (st3.sub (V' := V) fun d q => .inl (hV1 d q)) fun d q => q
      have l1 := obL_len gσ
      have l2 := obL_len g2
      refine sameB_ok ((stayM_sl sl hb1 st3').arb (by omega)) (sl3.arb (by omega)) fun w4 hk4 => ?_
      simp only [e_add]
      rw [inc i (by omega)]
      exact hB2 n _ _ (by omega) ⟨i + 1, c2, V3, by omega, rfl, z3.emp yuRg hk4, fun b q => hV3 b (.inl (hV1 b q)), g2, hch2, st3'.trans (Kp.stay (V := V) hk4 fun _ _ q => q) fun d q => q⟩
set_option maxHeartbeats 4000000 in
/-- power comes back -/
theorem reop_13 (h : CS W r m k J inF V w) (gj : GJ k J) (hk0 : 0 ≤ k) (hk : k ≤ 100000) (hf : Qu W w obf fv fvals inF) (hVf : ∀ b, obf = some b → V b) (hfl : inF.length ≤ 100000) (hfe : inF = [] → fv = nilS) (r8 : Row w o8 39 (opC op)) (hps : scal op.2 = true) (hpa : op.1.after ≤ 9223372036854775807)
    (next : NextR W r m K B1 t5 t25 t26 t27 k V w obf) : s6_p13 K B1 (P r 0) (P m 0) t5 fv (P o8 0) t25 t26 t27 w := by
  -- what is there
  obtain ⟨c, x, g, z, rd⟩ : ∃ c x, SGd park c ∧ Zg (fun V w => La W V w r x J) m c.ms V w ∧ RgD (Ch inF c) (reopJ J op.1) := by
    rcases h with ⟨⟨e, σ, z, hd, gs, rq⟩, hinf⟩ | ⟨c, g, rd, hr⟩
    · refine ⟨σ, P e 0, rq.g, z.map fun V w q => q.la, ?_⟩
      unfold reopJ
      rw [if_neg (by rw [rq.off]; decide)]
      have h1 : RgD (Ch inF σ) (failJ J op.1.keep) := (rq.fail op.1.keep).mono fun s q => Ch.refl q.ms
      exact (h1.flags (o := false) (l := (failJ J op.1.keep).left) (k := (failJ J op.1.keep).keep)).arm _ _
    · have h1 : RgD (Ch inF c) (if J.off = true then J else failJ J op.1.keep) := by
        split
        · exact rd
        · exact rd.fail _
      have h2 : RgD (Ch inF c) (reopJ J op.1) := by
        unfold reopJ
        generalize (if J.off = true then J else failJ J op.1.keep) = J1 at h1
        exact (h1.flags (o := false) (l := J1.left) (k := J1.keep)).arm _ _
      rcases hr with ⟨e, σ, z, _⟩ | z
      · exact ⟨c, P e 0, g, z.map fun V w q => q.la, h2⟩
      · exact ⟨c, .pointer none, g, z, h2⟩
  obtain ⟨rd1, hor⟩ := rd.opn Ch.core
  obtain ⟨O, G, zl, mo, hdj⟩ := z
  unfold s6_p13
  refine ldn_r r8 (show 0 + 4 ≤ 4 by decide) ?_
  refine reopen_x zl gj hk0 hps hpa fun w1 gj1 hcase hk1 => ?_
  have nS : ∀ d, V d ∨ O d ∨ G d → ¬ ¬ (V d ∨ O d ∨ G d) := fun d q r => r q
  have mo1 := mo.kp hk1 fun b q => ⟨fun r => q (.inr (.inl r)), fun r => q (.inr (.inr r))⟩
  have st1 : Stay V w w1 := Kp.stay (V := V) hk1 fun d q r => r (.inl q)
  have f1 := Stay.qu hf hVf st1
  generalize opnS park (reopJ J op.1) = y at rd1 hor gj1 hcase
  rcases hor with ⟨σ', o1, o2, o3, o4, o5, o6⟩ | ⟨o1, o2, o3⟩
  · rcases hcase with ⟨_, no⟩ | ⟨e, σ, zl1, hs, gs⟩
    · rw [o1] at no; cases no
    · rw [o1] at hs
      have hs := Option.some.inj hs
      subst hs
      rw [o2]
      simp only [e_neq, show ((0 : Int) != 0) = false from rfl, e_iff]
      have zu : Zg (YU W r e σ' y.1) m c.ms V w1 := ⟨O, G, ⟨σ', zl1, Core.refl _, o3, o5, rfl⟩, mo1, hdj⟩
      refine obs_r zu gs (by omega) o3 fun w2 v2 b2 V2 z2 hV2 hb2 sl2 st2 => ?_
      refine obs_m yuRg z2 g fun w3 v3 b3 V3 z3 hV3 hb3 sl3 st3 => ?_
      have l1 := obL_len (gs.g o3)
      have l2 := obL_len g
      have sl23 := stayM_sl sl2 hb2 st3
      refine sameB_ok (sl23.arb (by omega)) (sl3.arb (by omega)) fun w4 hk4 => ?_
      have st4 : Stay V w w4 := ((st1.trans st2 fun d q => q).trans (st3.sub (V' := V) fun d q => hV2 d q) fun d q => q).trans (Kp.stay (V := V) hk4 fun _ _ q => q) fun d q => q
      have hV3' : ∀ b, V b → V3 b := fun b q => hV3 b (hV2 b q)
      refine rec_loop (z3.emp yuRg hk4) g gs gj1 (by omega) o3 o4 o6 (Stay.qu hf hVf st4) (fun b q => hV3' b (hVf b q)) hfl (hV3 _ hb2) (sl23.kp' hk4) fun w5 J5 V5 h5 hV5 gj5 st5 => ?_
      exact next w5 J5 [] none nilS [] V5 h5 (fun b q => hV5 b (hV3' b q)) (fun b q => by cases q) (.inl rfl) Qu.nil gj5 (st4.trans (st5.sub (V' := V) hV3') fun d q => q) (by simp) (fun _ => rfl)
  · rcases hcase with ⟨zl1, no⟩ | ⟨e, σ, zl1, hs, gs⟩
    · rw [o2]
      simp only [e_neq, show ((19 : Int) != 0) = true from rfl, e_ift, show ((19 : Int) != 19) = false from rfl, e_gdff]
      obtain ⟨M, j, lob, hj, ⟨hr, hMr⟩, hM, hV⟩ := id zl1.ex
      obtain ⟨sv, lv, rj, _⟩ := hj.ex
      refine nk0 (fdp (ld1_r (v := P j 0) hr rfl ?_))
      refine nk0 (fdp (ld1_r (v := .bool y.1.off) rj rfl ?_))
      rw [o3]
      simp only [e_not, Bool.not_true, e_pkf, e_iff]
      exact next w1 y.1 inF obf fv fvals V (.inr ⟨c, g, rd1, .inr ⟨O, G, zl1, mo1, hdj⟩⟩) (fun b q => q) hVf (.inr rfl) f1 gj1 st1 hfl hfe
    · rw [o1] at hs; cases hs
end
end Go.Proofs.Qxb6500896aGreat
