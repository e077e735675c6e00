import Derived.Test.Qxb6500896aGreatM27
namespace Go.Proofs.Qxb6500896aGreat
open Go.Sh Go.RowKit
set_option linter.unusedVariables false
set_option linter.unusedSimpArgs false

section
variable {O G F : Nat → Prop} {w w' w0 : World} {m ab : Nat} {av v : Value} {K : Value → World → Prop} {σ : Sg} {b : Int} {fl bs : List Int}
/-- a number of the request -/
theorem Hc.at_ {i : Nat} {Y : Value → World → Prop} (h : Hc O G w0 w m σ ab av fl) (hi : i < fl.length) (hY : Y (I (nt fl i)) w) : ixs 1 av (I (i : Nat)) (fun t w => ld1 t Y w) w := by
  refine h.ar.ix hi fun b o _ cc => ?_
  exact cc.ld0 (v := I (nt fl i)) (by rw [nt_at hi]; rfl) hY
theorem Hc.atd {i : Nat} {Y : Value → World → Prop} (h : Hc O G w0 w m σ ab av fl) (hi : i < fl.length) (hY : Y (I (nt fl i)) w) : ixs 1 av (I (i : Nat)) (fun t _ => ld1 t Y w) w := by
  refine h.ar.ix hi fun b o _ cc => ?_
  exact cc.ld0 (v := I (nt fl i)) (by rw [nt_at hi]; rfl) hY
theorem lsted_len {k : Nat} (h : lsted fl k = true) : k < fl.length ∧ fl.length ≤ k + 17 := by
  obtain ⟨c, h1, h2, h3⟩ := lsted_iff.1 h
  have : k < fl.length := by
    refine Nat.lt_of_not_le fun q => ?_
    rw [List.getElem?_eq_none q] at h1
    cases h1
  omega
theorem Hc.nb (h : Hc O G w0 w m σ ab av fl) {b : Nat} (hb : w.heap.size ≤ b) : w0.heap.size ≤ b ∧ ¬ O b := by
  have s0 := h.k.size
  refine ⟨by omega, fun q => ?_⟩
  have := h.h.lt b (.inl q)
  omega
set_option maxHeartbeats 1000000 in
theorem hb_1 (hc : Hc O G w0 w m σ ab av fl) (hl : lsted fl 2 = true) (hX : XprN (⟨1, 0, 0, 0, nt fl 0, nt fl 1, 0, prs (fl.drop 3)⟩ : Rq)) (hK : MK O G w0 m K (mdO (some (⟨1, 0, 0, 0, nt fl 0, nt fl 1, 0, prs (fl.drop 3)⟩ : Rq)) σ).1.ms (mdO (some (⟨1, 0, 0, 0, nt fl 0, nt fl 1, 0, prs (fl.drop 3)⟩ : Rq)) σ).2) : s25_p3 K (P m 0) av w := by
  rw [mdO_c (q := (⟨1, 0, 0, 0, nt fl 0, nt fl 1, 0, prs (fl.drop 3)⟩ : Rq)) (by simp)] at hK
  have hn := lsted_len hl
  unfold s25_p3 s25_p3_d
  have kd : Kp Emp w (drw w) := kp_drw
  generalize drw w = w1 at kd ⊢
  have h1 := hc.kp kd
  refine h1.atd (i := 0) (by omega) ?_
  refine h1.atd (i := 1) (by omega) ?_
  refine h1.legs (n := 3) (by omega) (by omega) fun w2 v2 b2 hA hb hb' hk2 => ⟨hk2.below', ?_⟩
  unfold s25_p2
  have h2 := h1.kp hk2
  have nb := h1.nb hb
  have hll := hX.ll
  exact hold_m (q := (⟨1, 0, 0, 0, nt fl 0, nt fl 1, 0, prs (fl.drop 3)⟩ : Rq)) h2.mw h2.g rfl hX.cl.1 hX.sz.1 hA (fun c e => by rw [e]; exact ⟨⟨nb.1, hb'⟩, nb.2⟩) (by omega) hX.lg hK
set_option maxHeartbeats 1000000 in
theorem hb_22 (hc : Hc O G w0 w m σ ab av fl) (hl : lsted fl 2 = true) (hX : XprN (⟨22, 0, 0, 0, nt fl 0, nt fl 1, 0, prs (fl.drop 3)⟩ : Rq)) (hK : MK O G w0 m K (mdO (some (⟨22, 0, 0, 0, nt fl 0, nt fl 1, 0, prs (fl.drop 3)⟩ : Rq)) σ).1.ms (mdO (some (⟨22, 0, 0, 0, nt fl 0, nt fl 1, 0, prs (fl.drop 3)⟩ : Rq)) σ).2) : s25_p25 K (P m 0) av w := by
  rw [mdO_q (q := (⟨22, 0, 0, 0, nt fl 0, nt fl 1, 0, prs (fl.drop 3)⟩ : Rq)) (by simp)] at hK
  have hn := lsted_len hl
  unfold s25_p25 s25_p25_d
  have kd : Kp Emp w (drw w) := kp_drw
  generalize drw w = w1 at kd ⊢
  have h1 := hc.kp kd
  refine h1.atd (i := 0) (by omega) ?_
  refine h1.atd (i := 1) (by omega) ?_
  refine h1.legs (n := 3) (by omega) (by omega) fun w2 v2 b2 hA hb hb' hk2 => ⟨hk2.below', ?_⟩
  unfold s25_p24
  have h2 := h1.kp hk2
  have nb := h1.nb hb
  have hll := hX.ll
  exact quoteM_ok (q := (⟨22, 0, 0, 0, nt fl 0, nt fl 1, 0, prs (fl.drop 3)⟩ : Rq)) h2.h h2.k h2.g rfl hX.cl.1 hX.sz.1 hA (fun c e => by rw [e]; exact ⟨nb.1, hb'⟩) (by omega) hX.lg hK
set_option maxHeartbeats 1000000 in
theorem hb_5 (hc : Hc O G w0 w m σ ab av fl) (hl : lsted fl 1 = true) (hX : XprN (⟨5, nt fl 0, 0, 0, 0, 0, 0, prs (fl.drop 2)⟩ : Rq)) (hK : MK O G w0 m K (mdO (some (⟨5, nt fl 0, 0, 0, 0, 0, 0, prs (fl.drop 2)⟩ : Rq)) σ).1.ms (mdO (some (⟨5, nt fl 0, 0, 0, 0, 0, 0, prs (fl.drop 2)⟩ : Rq)) σ).2) : s25_p8 K (P m 0) av w := by
  rw [mdO_c (q := (⟨5, nt fl 0, 0, 0, 0, 0, 0, prs (fl.drop 2)⟩ : Rq)) (by simp)] at hK
  have hn := lsted_len hl
  unfold s25_p8 s25_p8_d
  have kd : Kp Emp w (drw w) := kp_drw
  generalize drw w = w1 at kd ⊢
  have h1 := hc.kp kd
  refine h1.atd (i := 0) (by omega) ?_
  refine h1.legs (n := 2) (by omega) (by omega) fun w2 v2 b2 hA hb hb' hk2 => ⟨hk2.below', ?_⟩
  unfold s25_p7
  have h2 := h1.kp hk2
  have nb := h1.nb hb
  have hll := hX.ll
  exact rebookM_ok (q := (⟨5, nt fl 0, 0, 0, 0, 0, 0, prs (fl.drop 2)⟩ : Rq)) h2.mw h2.g rfl hA (fun c e => by rw [e]; exact ⟨⟨nb.1, hb'⟩, nb.2⟩) (by omega) hX.lg hK
set_option maxHeartbeats 1000000 in
theorem hb_2 (hc : Hc O G w0 w m σ ab av fl) (hl : fl.length = 1) (hX : XprN (⟨2, nt fl 0, 0, 0, 0, 0, 0, []⟩ : Rq)) (hK : MK O G w0 m K (mdO (some (⟨2, nt fl 0, 0, 0, 0, 0, 0, []⟩ : Rq)) σ).1.ms (mdO (some (⟨2, nt fl 0, 0, 0, 0, 0, 0, []⟩ : Rq)) σ).2) : s25_p4 K (P m 0) av w := by
  rw [mdO_c (q := (⟨2, nt fl 0, 0, 0, 0, 0, 0, []⟩ : Rq)) (by simp)] at hK
  rw [ch_2 rfl] at hK
  unfold s25_p4
  refine hc.at_ (i := 0) (by omega) ?_
  exact confirmM_ok (q := (⟨2, nt fl 0, 0, 0, 0, 0, 0, []⟩ : Rq)) hc.mw hc.g rfl hK
set_option maxHeartbeats 1000000 in
theorem hb_3 (hc : Hc O G w0 w m σ ab av fl) (hl : fl.length = 1) (hX : XprN (⟨3, nt fl 0, 0, 0, 0, 0, 0, []⟩ : Rq)) (hK : MK O G w0 m K (mdO (some (⟨3, nt fl 0, 0, 0, 0, 0, 0, []⟩ : Rq)) σ).1.ms (mdO (some (⟨3, nt fl 0, 0, 0, 0, 0, 0, []⟩ : Rq)) σ).2) : s25_p5 K (P m 0) av w := by
  rw [mdO_c (q := (⟨3, nt fl 0, 0, 0, 0, 0, 0, []⟩ : Rq)) (by simp)] at hK
  rw [ch_3 rfl] at hK
  unfold s25_p5
  refine hc.at_ (i := 0) (by omega) ?_
  exact cancelM_ok (q := (⟨3, nt fl 0, 0, 0, 0, 0, 0, []⟩ : Rq)) hc.mw hc.g rfl hK
set_option maxHeartbeats 1000000 in
theorem hb_4 (hc : Hc O G w0 w m σ ab av fl) (hl : fl.length = 1) (hX : XprN (⟨4, nt fl 0, 0, 0, 0, 0, 0, []⟩ : Rq)) (hK : MK O G w0 m K (mdO (some (⟨4, nt fl 0, 0, 0, 0, 0, 0, []⟩ : Rq)) σ).1.ms (mdO (some (⟨4, nt fl 0, 0, 0, 0, 0, 0, []⟩ : Rq)) σ).2) : s25_p6 K (P m 0) (U8 4) av w := by
  rw [mdO_c (q := (⟨4, nt fl 0, 0, 0, 0, 0, 0, []⟩ : Rq)) (by simp)] at hK
  rw [ch_4 rfl] at hK
  unfold s25_p6
  refine hc.at_ (i := 0) (by omega) ?_
  exact arriveM_ok (q := (⟨4, nt fl 0, 0, 0, 0, 0, 0, []⟩ : Rq)) (st := 2) hc.mw hc.g (by decide) (by simp) hK
set_option maxHeartbeats 1000000 in
theorem hb_8 (hc : Hc O G w0 w m σ ab av fl) (hl : fl.length = 1) (hX : XprN (⟨8, nt fl 0, 0, 0, 0, 0, 0, []⟩ : Rq)) (hK : MK O G w0 m K (mdO (some (⟨8, nt fl 0, 0, 0, 0, 0, 0, []⟩ : Rq)) σ).1.ms (mdO (some (⟨8, nt fl 0, 0, 0, 0, 0, 0, []⟩ : Rq)) σ).2) : s25_p12 K (P m 0) (U8 8) av w := by
  rw [mdO_c (q := (⟨8, nt fl 0, 0, 0, 0, 0, 0, []⟩ : Rq)) (by simp)] at hK
  rw [ch_8 rfl] at hK
  unfold s25_p12
  refine hc.at_ (i := 0) (by omega) ?_
  exact arriveM_ok (q := (⟨8, nt fl 0, 0, 0, 0, 0, 0, []⟩ : Rq)) (st := 8) hc.mw hc.g (by decide) (by simp) hK
set_option maxHeartbeats 1000000 in
theorem hb_7 (hc : Hc O G w0 w m σ ab av fl) (hl : fl.length = 1) (hX : XprN (⟨7, nt fl 0, 0, 0, 0, 0, 0, []⟩ : Rq)) (hK : MK O G w0 m K (mdO (some (⟨7, nt fl 0, 0, 0, 0, 0, 0, []⟩ : Rq)) σ).1.ms (mdO (some (⟨7, nt fl 0, 0, 0, 0, 0, 0, []⟩ : Rq)) σ).2) : s25_p11 K (P m 0) av w := by
  rw [mdO_c (q := (⟨7, nt fl 0, 0, 0, 0, 0, 0, []⟩ : Rq)) (by simp)] at hK
  unfold s25_p11
  refine hc.at_ (i := 0) (by omega) ?_
  exact leaveM_ok (q := (⟨7, nt fl 0, 0, 0, 0, 0, 0, []⟩ : Rq)) hc.mw hc.g rfl hK
set_option maxHeartbeats 1000000 in
theorem hb_9 (hc : Hc O G w0 w m σ ab av fl) (hl : fl.length = 0) (hX : XprN (⟨9, 0, 0, 0, 0, 0, 0, []⟩ : Rq)) (hK : MK O G w0 m K (mdO (some (⟨9, 0, 0, 0, 0, 0, 0, []⟩ : Rq)) σ).1.ms (mdO (some (⟨9, 0, 0, 0, 0, 0, 0, []⟩ : Rq)) σ).2) : s25_p13 K (P m 0) w := by
  rw [mdO_c (q := (⟨9, 0, 0, 0, 0, 0, 0, []⟩ : Rq)) (by simp)] at hK
  rw [ch_9 rfl] at hK
  unfold s25_p13
  exact tickM_ok (q := (⟨9, 0, 0, 0, 0, 0, 0, []⟩ : Rq)) hc.mw hc.g rfl hK
set_option maxHeartbeats 1000000 in
theorem hb_6 (hc : Hc O G w0 w m σ ab av fl) (hl : fl.length = 3) (hX : XprN (⟨6, 0, nt fl 0, 0, nt fl 1, nt fl 2, 0, []⟩ : Rq)) (hK : MK O G w0 m K (mdO (some (⟨6, 0, nt fl 0, 0, nt fl 1, nt fl 2, 0, []⟩ : Rq)) σ).1.ms (mdO (some (⟨6, 0, nt fl 0, 0, nt fl 1, nt fl 2, 0, []⟩ : Rq)) σ).2) : s25_p10 K (P m 0) av w := by
  rw [mdO_c (q := (⟨6, 0, nt fl 0, 0, nt fl 1, nt fl 2, 0, []⟩ : Rq)) (by simp)] at hK
  unfold s25_p10 s25_p10_d
  have kd : Kp Emp w (drw w) := kp_drw
  generalize drw w = w1 at kd ⊢
  have h1 := hc.kp kd
  refine h1.atd (i := 0) (by omega) ?_
  refine h1.atd (i := 1) (by omega) ?_
  refine h1.atd (i := 2) (by omega) ?_
  unfold s25_p9
  exact joinM_ok (q := (⟨6, 0, nt fl 0, 0, nt fl 1, nt fl 2, 0, []⟩ : Rq)) h1.mw h1.g rfl hX.at'.1 hX.cl.1 hX.sz.1 hK
set_option maxHeartbeats 1000000 in
theorem hb_16 (hc : Hc O G w0 w m σ ab av fl) (hl : fl.length = 1) (hX : XprN (⟨16, nt fl 0, 0, 0, 0, 0, 0, []⟩ : Rq)) (hK : MK O G w0 m K (mdO (some (⟨16, nt fl 0, 0, 0, 0, 0, 0, []⟩ : Rq)) σ).1.ms (mdO (some (⟨16, nt fl 0, 0, 0, 0, 0, 0, []⟩ : Rq)) σ).2) : s25_p14 K (P m 0) av w := by
  rw [mdO_q (q := (⟨16, nt fl 0, 0, 0, 0, 0, 0, []⟩ : Rq)) (by simp)] at hK
  unfold s25_p14
  refine hc.at_ (i := 0) (by omega) ?_
  exact getM_ok (q := (⟨16, nt fl 0, 0, 0, 0, 0, 0, []⟩ : Rq)) hc.mw hc.g rfl hK
set_option maxHeartbeats 1000000 in
theorem hb_17 (hc : Hc O G w0 w m σ ab av fl) (hl : fl.length = 2) (hX : XprN (⟨17, nt fl 0, 0, 0, 0, 0, nt fl 1, []⟩ : Rq)) (hK : MK O G w0 m K (mdO (some (⟨17, nt fl 0, 0, 0, 0, 0, nt fl 1, []⟩ : Rq)) σ).1.ms (mdO (some (⟨17, nt fl 0, 0, 0, 0, 0, nt fl 1, []⟩ : Rq)) σ).2) : s25_p16 K (P m 0) av w := by
  rw [mdO_q (q := (⟨17, nt fl 0, 0, 0, 0, 0, nt fl 1, []⟩ : Rq)) (by simp)] at hK
  unfold s25_p16 s25_p16_d
  have kd : Kp Emp w (drw w) := kp_drw
  generalize drw w = w1 at kd ⊢
  have h1 := hc.kp kd
  refine h1.atd (i := 0) (by omega) ?_
  refine h1.atd (i := 1) (by omega) ?_
  unfold s25_p15
  exact listM_ok (q := (⟨17, nt fl 0, 0, 0, 0, 0, nt fl 1, []⟩ : Rq)) h1.mw h1.g rfl hX.id.1 hX.li.1 hK
set_option maxHeartbeats 1000000 in
theorem hb_18 (hc : Hc O G w0 w m σ ab av fl) (hl : fl.length = 2) (hX : XprN (⟨18, 0, nt fl 0, nt fl 1, 0, 0, 0, []⟩ : Rq)) (hK : MK O G w0 m K (mdO (some (⟨18, 0, nt fl 0, nt fl 1, 0, 0, 0, []⟩ : Rq)) σ).1.ms (mdO (some (⟨18, 0, nt fl 0, nt fl 1, 0, 0, 0, []⟩ : Rq)) σ).2) : s25_p18 K (P m 0) av w := by
  rw [mdO_q (q := (⟨18, 0, nt fl 0, nt fl 1, 0, 0, 0, []⟩ : Rq)) (by simp)] at hK
  unfold s25_p18 s25_p18_d
  have kd : Kp Emp w (drw w) := kp_drw
  generalize drw w = w1 at kd ⊢
  have h1 := hc.kp kd
  refine h1.atd (i := 0) (by omega) ?_
  refine h1.atd (i := 1) (by omega) ?_
  unfold s25_p17
  exact slotM_ok (q := (⟨18, 0, nt fl 0, nt fl 1, 0, 0, 0, []⟩ : Rq)) h1.mw h1.g rfl hX hK
set_option maxHeartbeats 1000000 in
theorem hb_19 (hc : Hc O G w0 w m σ ab av fl) (hl : fl.length = 1) (hX : XprN (⟨19, 0, nt fl 0, 0, 0, 0, 0, []⟩ : Rq)) (hK : MK O G w0 m K (mdO (some (⟨19, 0, nt fl 0, 0, 0, 0, 0, []⟩ : Rq)) σ).1.ms (mdO (some (⟨19, 0, nt fl 0, 0, 0, 0, 0, []⟩ : Rq)) σ).2) : s25_p19 K (P m 0) av w := by
  rw [mdO_q (q := (⟨19, 0, nt fl 0, 0, 0, 0, 0, []⟩ : Rq)) (by simp)] at hK
  unfold s25_p19
  refine hc.at_ (i := 0) (by omega) ?_
  exact lineM_ok (q := (⟨19, 0, nt fl 0, 0, 0, 0, 0, []⟩ : Rq)) hc.mw hc.g rfl hX.at'.1 hK
set_option maxHeartbeats 1000000 in
theorem hb_21 (hc : Hc O G w0 w m σ ab av fl) (hl : fl.length = 4) (hX : XprN (⟨21, 0, nt fl 0, nt fl 3, nt fl 1, nt fl 2, 0, []⟩ : Rq)) (hK : MK O G w0 m K (mdO (some (⟨21, 0, nt fl 0, nt fl 3, nt fl 1, nt fl 2, 0, []⟩ : Rq)) σ).1.ms (mdO (some (⟨21, 0, nt fl 0, nt fl 3, nt fl 1, nt fl 2, 0, []⟩ : Rq)) σ).2) : s25_p23 K (P m 0) av w := by
  rw [mdO_q (q := (⟨21, 0, nt fl 0, nt fl 3, nt fl 1, nt fl 2, 0, []⟩ : Rq)) (by simp)] at hK
  unfold s25_p23 s25_p23_d
  have kd : Kp Emp w (drw w) := kp_drw
  generalize drw w = w1 at kd ⊢
  have h1 := hc.kp kd
  refine h1.atd (i := 0) (by omega) ?_
  refine h1.atd (i := 1) (by omega) ?_
  refine h1.atd (i := 2) (by omega) ?_
  refine h1.atd (i := 3) (by omega) ?_
  unfold s25_p22
  exact findM_ok (q := (⟨21, 0, nt fl 0, nt fl 3, nt fl 1, nt fl 2, 0, []⟩ : Rq)) h1.mw h1.g rfl hX hK
set_option maxHeartbeats 1000000 in
theorem hb_23 (hc : Hc O G w0 w m σ ab av fl) (hl : fl.length = 0) (hX : XprN (⟨23, 0, 0, 0, 0, 0, 0, []⟩ : Rq)) (hK : MK O G w0 m K (mdO (some (⟨23, 0, 0, 0, 0, 0, 0, []⟩ : Rq)) σ).1.ms (mdO (some (⟨23, 0, 0, 0, 0, 0, 0, []⟩ : Rq)) σ).2) : cl Tryz.prog 102 #[P m 0] K w := by
  rw [mdO_q (q := (⟨23, 0, 0, 0, 0, 0, 0, []⟩ : Rq)) (by simp)] at hK
  exact countM_ok (q := (⟨23, 0, 0, 0, 0, 0, 0, []⟩ : Rq)) hc.mw hc.g rfl hK
set_option maxHeartbeats 1000000 in
theorem hb_24 (hc : Hc O G w0 w m σ ab av fl) (hl : fl.length = 1) (hX : XprN (⟨24, nt fl 0, 0, 0, 0, 0, 0, []⟩ : Rq)) (hK : MK O G w0 m K (mdO (some (⟨24, nt fl 0, 0, 0, 0, 0, 0, []⟩ : Rq)) σ).1.ms (mdO (some (⟨24, nt fl 0, 0, 0, 0, 0, 0, []⟩ : Rq)) σ).2) : ixs 1 av (I 0) (fun t290 w => ld1 t290 (fun t291 w => cl Tryz.prog 103 #[P m 0, t291] K w) w) w := by
  rw [mdO_q (q := (⟨24, nt fl 0, 0, 0, 0, 0, 0, []⟩ : Rq)) (by simp)] at hK
  refine hc.at_ (i := 0) (by omega) ?_
  exact placeM_ok (q := (⟨24, nt fl 0, 0, 0, 0, 0, 0, []⟩ : Rq)) hc.mw hc.g rfl hX hK
set_option maxHeartbeats 1000000 in
theorem hb_20 (hc : Hc O G w0 w m σ ab av fl) (hl : fl.length = 0) (hX : XprN (⟨20, 0, 0, 0, 0, 0, 0, []⟩ : Rq)) (hK : MK O G w0 m K (mdO (some (⟨20, 0, 0, 0, 0, 0, 0, []⟩ : Rq)) σ).1.ms (mdO (some (⟨20, 0, 0, 0, 0, 0, 0, []⟩ : Rq)) σ).2) : s25_p21 K (P m 0) (U8 20) w := by
  rw [mdO_q (q := (⟨20, 0, 0, 0, 0, 0, 0, []⟩ : Rq)) (by simp)] at hK
  unfold quM qR qClock at hK
  rw [if_pos (valid_0 (by simp) (by simp) (by simp) (by simp) (by simp) (by simp) (by simp))] at hK
  simp only [show ¬ ((20 : Int) = 16) by decide, show ¬ ((20 : Int) = 17) by decide, show ¬ ((20 : Int) = 18) by decide, show ¬ ((20 : Int) = 19) by decide, if_false, if_true] at hK
  have e : eR { rp0 with op := 20, now := σ.now, la := σ.now + park.hz - 1, gr := (σ.rs.length : Nat) } = [0, 20] ++ (uI σ.now ++ uI (σ.now + 8 - 1) ++ uI ((σ.rs.length : Nat) : Int)) := eR_20 rfl rfl
  rw [e] at hK
  have hn := hc.g.now
  have hmc : park.mc = 36 := rfl
  rw [hmc] at hn
  have hlen := hc.g.len
  have hmb : park.mb = 26 := rfl
  rw [hmb] at hlen
  unfold s25_p21 s25_p21_d
  have kd : Kp Emp w (drw w) := kp_drw
  generalize drw w = w1 at kd ⊢
  have h1 := hc.kp kd
  have mo := h1.mw.mo
  refine nk0 (fdp (mo.nw ?_))
  refine nk0 (fdp (mo.nw ?_))
  refine nk0 (fdp (fdp (mo.cf (n := 8) (fun _ _ _ _ => rfl) ?_)))
  simp only [e_add, e_sub]
  rw [wrap64_id (n := σ.ms.now + 8) (by show -9223372036854775808 ≤ σ.now + 8; omega) (by show σ.now + 8 ≤ 9223372036854775807; omega), wrap64_id (by show -9223372036854775808 ≤ σ.now + 8 - 1; omega) (by show σ.now + 8 - 1 ≤ 9223372036854775807; omega)]
  refine nk0 (fdp ?_)
  obtain ⟨va, vt, rv, lv', rob, lob, its, pps, x, ee1, ee2⟩ := mo
  have hil : its.length = σ.rs.length := by rw [← show its.map (·.1) = σ.rs from ee1, List.length_map]
  refine ld1_r (v := rv) x.row rfl (x.rsl.ln ?_)
  rw [hil]
  refine bsq_r (l := [I σ.now, I (σ.now + 8 - 1), I (σ.rs.length : Nat)]) rfl fun w2 r2 hk2 hz2 => ?_
  have sl2 : Sl iC 1 w2 3 (some w1.heap.size) (.slice (some ⟨w1.heap.size, 0, none⟩) 3 3) [σ.now, σ.now + 8 - 1, ((σ.rs.length : Nat) : Int)] := ⟨3, [], rfl, Nat.le_refl _, rfl, by rw [List.append_nil]; exact r2⟩
  unfold s25_p20
  refine yes_s (h1.mw.emp hk2) sl2 (fun y hy => ?_) (by simp) ?_
  · simp only [List.mem_cons, List.not_mem_nil, or_false] at hy
    rcases hy with r | r | r
    · rw [r]; exact ⟨by omega, by omega⟩
    · rw [r]; exact ⟨by omega, by omega⟩
    · rw [r]; exact ⟨by omega, by omega⟩
  · simpa [List.flatMap_cons] using hK
set_option maxHeartbeats 2000000 in
/-- the switch -/
theorem switch_ok (hc : Hc O G w0 w m σ ab av fl) (hX : ∀ q, mOp b fl = some q → XprN q) (hK : MK O G w0 m K (mdO (mOp b fl) σ).1.ms (mdO (mOp b fl) σ).2) : s25_p58 K (P m 0) (U8 b) av (I (fl.length : Nat)) w := by
  by_cases h1 : b = 1
  · subst h1
    rw [mOp_0 (by decide)] at hK hX
    by_cases hl : lsted fl 2 = true
    · rw [if_pos hl] at hK hX
      exact hy_1 hc rfl hl (hb_1 hc hl (hX _ rfl) hK)
    · rw [if_neg hl] at hK
      exact hn_1 hc rfl (Bool.eq_false_iff.2 hl) (hf_2 (by decide) <| hf_3 (by decide) <| hf_4 (by decide) <| hf_5 (by decide) <| hf_6 (by decide) <| hf_7 (by decide) <| hf_8 (by decide) <| hf_9 (by decide) <| hf_16 (by decide) <| hf_17 (by decide) <| hf_18 (by decide) <| hf_19 (by decide) <| hf_20 (by decide) <| hf_21 (by decide) <| hf_22 (by decide) <| hf_23 (by decide) (by decide) (hc.end_ hK))
  refine hf_1 h1 ?_
  by_cases h2 : b = 2
  · subst h2
    rw [mOp_3 (by decide) (by decide) (by decide) (by decide)] at hK hX
    by_cases hl : fl.length = 1
    · rw [if_pos hl] at hK hX
      exact hy_2 rfl hl (hb_2 hc hl (hX _ rfl) hK)
    · rw [if_neg hl] at hK
      exact hn_2 rfl hl (hf_3 (by decide) <| hf_4 (by decide) <| hf_5 (by decide) <| hf_6 (by decide) <| hf_7 (by decide) <| hf_8 (by decide) <| hf_9 (by decide) <| hf_16 (by decide) <| hf_17 (by decide) <| hf_18 (by decide) <| hf_19 (by decide) <| hf_20 (by decide) <| hf_21 (by decide) <| hf_22 (by decide) <| hf_23 (by decide) (by decide) (hc.end_ hK))
  refine hf_2 h2 ?_
  by_cases h3 : b = 3
  · subst h3
    rw [mOp_3 (by decide) (by decide) (by decide) (by decide)] at hK hX
    by_cases hl : fl.length = 1
    · rw [if_pos hl] at hK hX
      exact hy_3 rfl hl (hb_3 hc hl (hX _ rfl) hK)
    · rw [if_neg hl] at hK
      exact hn_3 rfl hl (hf_4 (by decide) <| hf_5 (by decide) <| hf_6 (by decide) <| hf_7 (by decide) <| hf_8 (by decide) <| hf_9 (by decide) <| hf_16 (by decide) <| hf_17 (by decide) <| hf_18 (by decide) <| hf_19 (by decide) <| hf_20 (by decide) <| hf_21 (by decide) <| hf_22 (by decide) <| hf_23 (by decide) (by decide) (hc.end_ hK))
  refine hf_3 h3 ?_
  by_cases h4 : b = 4
  · subst h4
    rw [mOp_3 (by decide) (by decide) (by decide) (by decide)] at hK hX
    by_cases hl : fl.length = 1
    · rw [if_pos hl] at hK hX
      exact hy_4 rfl hl (hb_4 hc hl (hX _ rfl) hK)
    · rw [if_neg hl] at hK
      exact hn_4 rfl hl (hf_5 (by decide) <| hf_6 (by decide) <| hf_7 (by decide) <| hf_8 (by decide) <| hf_9 (by decide) <| hf_16 (by decide) <| hf_17 (by decide) <| hf_18 (by decide) <| hf_19 (by decide) <| hf_20 (by decide) <| hf_21 (by decide) <| hf_22 (by decide) <| hf_23 (by decide) (by decide) (hc.end_ hK))
  refine hf_4 h4 ?_
  by_cases h5 : b = 5
  · subst h5
    rw [mOp_1 (by decide) (by decide)] at hK hX
    by_cases hl : lsted fl 1 = true
    · rw [if_pos hl] at hK hX
      exact hy_5 hc rfl hl (hb_5 hc hl (hX _ rfl) hK)
    · rw [if_neg hl] at hK
      exact hn_5 hc rfl (Bool.eq_false_iff.2 hl) (hf_6 (by decide) <| hf_7 (by decide) <| hf_8 (by decide) <| hf_9 (by decide) <| hf_16 (by decide) <| hf_17 (by decide) <| hf_18 (by decide) <| hf_19 (by decide) <| hf_20 (by decide) <| hf_21 (by decide) <| hf_22 (by decide) <| hf_23 (by decide) (by decide) (hc.end_ hK))
  refine hf_5 h5 ?_
  by_cases h6 : b = 6
  · subst h6
    rw [mOp_2 (by decide) (by decide) (by decide)] at hK hX
    by_cases hl : fl.length = 3
    · rw [if_pos hl] at hK hX
      exact hy_6 rfl hl (hb_6 hc hl (hX _ rfl) hK)
    · rw [if_neg hl] at hK
      exact hn_6 rfl hl (hf_7 (by decide) <| hf_8 (by decide) <| hf_9 (by decide) <| hf_16 (by decide) <| hf_17 (by decide) <| hf_18 (by decide) <| hf_19 (by decide) <| hf_20 (by decide) <| hf_21 (by decide) <| hf_22 (by decide) <| hf_23 (by decide) (by decide) (hc.end_ hK))
  refine hf_6 h6 ?_
  by_cases h7 : b = 7
  · subst h7
    rw [mOp_3 (by decide) (by decide) (by decide) (by decide)] at hK hX
    by_cases hl : fl.length = 1
    · rw [if_pos hl] at hK hX
      exact hy_7 rfl hl (hb_7 hc hl (hX _ rfl) hK)
    · rw [if_neg hl] at hK
      exact hn_7 rfl hl (hf_8 (by decide) <| hf_9 (by decide) <| hf_16 (by decide) <| hf_17 (by decide) <| hf_18 (by decide) <| hf_19 (by decide) <| hf_20 (by decide) <| hf_21 (by decide) <| hf_22 (by decide) <| hf_23 (by decide) (by decide) (hc.end_ hK))
  refine hf_7 h7 ?_
  by_cases h8 : b = 8
  · subst h8
    rw [mOp_3 (by decide) (by decide) (by decide) (by decide)] at hK hX
    by_cases hl : fl.length = 1
    · rw [if_pos hl] at hK hX
      exact hy_8 rfl hl (hb_8 hc hl (hX _ rfl) hK)
    · rw [if_neg hl] at hK
      exact hn_8 rfl hl (hf_9 (by decide) <| hf_16 (by decide) <| hf_17 (by decide) <| hf_18 (by decide) <| hf_19 (by decide) <| hf_20 (by decide) <| hf_21 (by decide) <| hf_22 (by decide) <| hf_23 (by decide) (by decide) (hc.end_ hK))
  refine hf_8 h8 ?_
  by_cases h9 : b = 9
  · subst h9
    rw [mOp_8 (by decide) (by decide) (by decide) (by decide) (by decide) (by decide) (by decide) (by decide) (by decide)] at hK hX
    by_cases hl : fl.length = 0
    · rw [if_pos hl] at hK hX
      exact hy_9 rfl hl (hb_9 hc hl (hX _ rfl) hK)
    · rw [if_neg hl] at hK
      exact hn_9 rfl hl (hf_16 (by decide) <| hf_17 (by decide) <| hf_18 (by decide) <| hf_19 (by decide) <| hf_20 (by decide) <| hf_21 (by decide) <| hf_22 (by decide) <| hf_23 (by decide) (by decide) (hc.end_ hK))
  refine hf_9 h9 ?_
  by_cases h16 : b = 16
  · subst h16
    rw [mOp_3 (by decide) (by decide) (by decide) (by decide)] at hK hX
    by_cases hl : fl.length = 1
    · rw [if_pos hl] at hK hX
      exact hy_16 rfl hl (hb_16 hc hl (hX _ rfl) hK)
    · rw [if_neg hl] at hK
      exact hn_16 rfl hl (hf_17 (by decide) <| hf_18 (by decide) <| hf_19 (by decide) <| hf_20 (by decide) <| hf_21 (by decide) <| hf_22 (by decide) <| hf_23 (by decide) (by decide) (hc.end_ hK))
  refine hf_16 h16 ?_
  by_cases h17 : b = 17
  · subst h17
    rw [mOp_4 (by decide) (by decide) (by decide) (by decide) (by decide)] at hK hX
    by_cases hl : fl.length = 2
    · rw [if_pos hl] at hK hX
      exact hy_17 rfl hl (hb_17 hc hl (hX _ rfl) hK)
    · rw [if_neg hl] at hK
      exact hn_17 rfl hl (hf_18 (by decide) <| hf_19 (by decide) <| hf_20 (by decide) <| hf_21 (by decide) <| hf_22 (by decide) <| hf_23 (by decide) (by decide) (hc.end_ hK))
  refine hf_17 h17 ?_
  by_cases h18 : b = 18
  · subst h18
    rw [mOp_5 (by decide) (by decide) (by decide) (by decide) (by decide) (by decide)] at hK hX
    by_cases hl : fl.length = 2
    · rw [if_pos hl] at hK hX
      exact hy_18 rfl hl (hb_18 hc hl (hX _ rfl) hK)
    · rw [if_neg hl] at hK
      exact hn_18 rfl hl (hf_19 (by decide) <| hf_20 (by decide) <| hf_21 (by decide) <| hf_22 (by decide) <| hf_23 (by decide) (by decide) (hc.end_ hK))
  refine hf_18 h18 ?_
  by_cases h19 : b = 19
  · subst h19
    rw [mOp_6 (by decide) (by decide) (by decide) (by decide) (by decide) (by decide) (by decide)] at hK hX
    by_cases hl : fl.length = 1
    · rw [if_pos hl] at hK hX
      exact hy_19 rfl hl (hb_19 hc hl (hX _ rfl) hK)
    · rw [if_neg hl] at hK
      exact hn_19 rfl hl (hf_20 (by decide) <| hf_21 (by decide) <| hf_22 (by decide) <| hf_23 (by decide) (by decide) (hc.end_ hK))
  refine hf_19 h19 ?_
  by_cases h20 : b = 20
  · subst h20
    rw [mOp_8 (by decide) (by decide) (by decide) (by decide) (by decide) (by decide) (by decide) (by decide) (by decide)] at hK hX
    by_cases hl : fl.length = 0
    · rw [if_pos hl] at hK hX
      exact hy_20 rfl hl (hb_20 hc hl (hX _ rfl) hK)
    · rw [if_neg hl] at hK
      exact hn_20 rfl hl (hf_21 (by decide) <| hf_22 (by decide) <| hf_23 (by decide) (by decide) (hc.end_ hK))
  refine hf_20 h20 ?_
  by_cases h21 : b = 21
  · subst h21
    rw [mOp_7 (by decide) (by decide) (by decide) (by decide) (by decide) (by decide) (by decide) (by decide)] at hK hX
    by_cases hl : fl.length = 4
    · rw [if_pos hl] at hK hX
      exact hy_21 rfl hl (hb_21 hc hl (hX _ rfl) hK)
    · rw [if_neg hl] at hK
      exact hn_21 rfl hl (hf_22 (by decide) <| hf_23 (by decide) (by decide) (hc.end_ hK))
  refine hf_21 h21 ?_
  by_cases h22 : b = 22
  · subst h22
    rw [mOp_0 (by decide)] at hK hX
    by_cases hl : lsted fl 2 = true
    · rw [if_pos hl] at hK hX
      exact hy_22 hc rfl hl (hb_22 hc hl (hX _ rfl) hK)
    · rw [if_neg hl] at hK
      exact hn_22 hc rfl (Bool.eq_false_iff.2 hl) (hf_23 (by decide) (by decide) (hc.end_ hK))
  refine hf_22 h22 ?_
  by_cases h23 : b = 23
  · subst h23
    rw [mOp_8 (by decide) (by decide) (by decide) (by decide) (by decide) (by decide) (by decide) (by decide) (by decide)] at hK hX
    by_cases hl : fl.length = 0
    · rw [if_pos hl] at hK hX
      exact hy_23 rfl hl (hb_23 hc hl (hX _ rfl) hK)
    · rw [if_neg hl] at hK
      exact hn_23 rfl hl (hc.end_ hK)
  by_cases h24 : b = 24
  · subst h24
    rw [mOp_3 (by decide) (by decide) (by decide) (by decide)] at hK hX
    by_cases hl : fl.length = 1
    · rw [if_pos hl] at hK hX
      exact hy_24 rfl hl (hb_24 hc hl (hX _ rfl) hK)
    · rw [if_neg hl] at hK
      exact hn_24 rfl hl (hc.end_ hK)
  refine hf_23 h23 h24 (hc.end_ ?_)
  have e : mOp b fl = none := by
    unfold mOp
    rw [if_neg (by omega), if_neg (by omega), if_neg (by omega), if_neg (by unfold dIds; simp only [List.mem_cons, List.not_mem_nil, or_false]; omega), if_neg (by omega), if_neg (by omega), if_neg (by omega), if_neg (by omega), if_neg (by omega)]
  rw [e] at hK
  exact hK
/-- how the model answers -/
def mdS (bs : List Int) (σ : Sg) : Sg × List Int := mdO (mRead bs) σ
set_option maxHeartbeats 2000000 in
theorem handleM_ok (h : Mo O G w m σ.ms) (g : SGd park σ) (hA : Ar bC 1 F w v bs) (hF : ∀ b, F b → b < w.heap.size) (hb : By bs) (hl : bs.length ≤ 1000000000000) (hK : MK O G w m K (mdS bs σ).1.ms (mdS bs σ).2) : cl Tryz.prog 25 #[P m 0, v] K w := by
  unfold mdS at hK
  apply c25
  unfold s25_p59
  refine hA.ln ?_
  simp only [e_eql]
  cases bs with
  | nil =>
    simp only [List.length_nil, show (((0 : Nat) : Int) == 0) = true from rfl, e_ift]
    exact no_ok (by decide) ((Mw.start h).out hK)
  | cons b r =>
    have e0 : ((((b :: r).length : Nat) : Int) == 0) = false := by rw [beq_eq_false_iff_ne, List.length_cons]; omega
    simp only [e0, e_iff]
    refine hA.ix (i := 0) (by simp) fun b1 o1 _ cc => ?_
    refine cc.ld0 (v := U8 b) rfl ?_
    refine hA.sub (lo := 1) (hi := (b :: r).length) (by simp) (Nat.le_refl _) rfl (fun a c e => rfl) fun v' hA' => ?_
    rw [List.drop_one, List.tail_cons, List.take_of_length_le (by simp)] at hA'
    have hbr : By r := fun x hx => hb x (List.mem_cons_of_mem _ hx)
    rw [List.length_cons] at hl
    refine numbers_ok hA' hF hbr (by omega) (fun hn w1 k1 => ?_) fun fl hn w1 v1 ab sl1 hab k1 => ?_
    · simp only [e_ex20, e_ex21, e_not, Bool.not_false, e_ift]
      have e : mRead (b :: r) = none := by show (nmL r).bind (mOp b) = none; rw [hn]; rfl
      rw [e] at hK
      exact no_ok (by decide) (((Mw.start h).emp k1).out hK)
    · simp only [e_ex20, e_ex21, e_not, Bool.not_true, e_iff]
      have e : mRead (b :: r) = mOp b fl := by show (nmL r).bind (mOp b) = _; rw [hn]; rfl
      rw [e] at hK
      refine sl1.ln ?_
      obtain ⟨n1, n2⟩ := numsF_N (f := r.length) hn
      refine switch_ok ⟨h, k1, sl1, n1, by omega, g⟩ (fun q hq => ?_) hK
      have := mRead_some (e.trans hq)
      have hx := dec_x (bs := b :: r) (by rw [this])
      rw [this] at hx
      exact hx
end
end Go.Proofs.Qxb6500896aGreat
